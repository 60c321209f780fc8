/- Written by this session's own program (wip/xprint, which runs over the kit's print): what the functions that the law reaches come to, each proved; and the law's row. Conditions: none. -/
import Derived.Test.YthjhenhmjmpkaaaUFnConditionsx0
import Derived.Test.YthjhenhmjmpkaaaUFnConditionsx1
namespace Go.Proofs.Ythjhenhmjmpkaaa.XFnConditions
open Go.RowKit Go.Proofs.YthjhenhmjmpkaaaW.PrintWords Go.Proofs.YthjhenhmjmpkaaaW.PrintLast Go.Proofs.YthjhenhmjmpkaaaW.PrintMore
attribute [local go_sem] max2_int min2_int max_two min_two max_three min_three max_four min_four   -- for this text's walks alone
set_option linter.unusedVariables false
set_option linter.unusedSimpArgs false

/-! ### impl_CondAnd: function 17 -/
def impl_CondAnd.f (k : Nat) (a0_0 : Int) (a0_1 : Int) (a0_2 : Int) (l0_3 : List (S29)) (a1_0 : Int) (a1_1 : Int) (a1_2 : Int) (l1_3 : List (S29)) : Option (Int × Int × Int × (List (S29))) := (impl_copyCond.f k a0_0 a0_1 a0_2 l0_3).bind fun bt398 => ((impl_copyCond.f k a1_0 a1_1 a1_2 l1_3).bind fun bt404 => (some (8, 0, 0, (([(⟨bt398.1, bt398.2.1, bt398.2.2.1, bt398.2.2.2⟩ : S29), (⟨bt404.1, bt404.2.1, bt404.2.2.1, bt404.2.2.2⟩ : S29)] : List (S29))))))
theorem pB17_ {P Q : Prop} (h : P) (g : P → Q := by intro h_; (with_reducible repeat (first | refine blk_drewN ?_ _ | refine blk_drew ?_ | refine blk_alloc ?_ _)); exact h_) : Q := g h
theorem z17_0 {Q : Prop} (g : Q := by repeat (first | (with_reducible first | exact HB.out | apply bA_ | apply bN_ | apply bD_ | refine bS_ ?_ GE395.out | refine bS_ ?_ GE396.out | refine bS_ ?_ GE397.out) | exact HB.out)) : Q := g
theorem z17_1 {Q : Prop} (g : Q := by repeat (first | (with_reducible first | exact HB.out | apply bA_ | apply bN_ | apply bD_ | refine bS_ ?_ GE395.out | refine bS_ ?_ GE396.out) | exact HB.out)) : Q := g
theorem z17_2 {Q : Prop} (g : Q := by repeat (first | (with_reducible first | exact HB.out | apply bA_ | apply bN_ | apply bD_ | refine bS_ ?_ GE395.out) | exact HB.out)) : Q := g
theorem z17_3 {Q : Prop} (g : Q := by (with_reducible repeat (first | apply Kd.S_alloc | apply Kd.S_drewN | apply Kd.S_drew)); exact HO403.out) : Q := g
theorem z17_4 {Q : Prop} (g : Q := by repeat (first | (with_reducible first | exact HB.out | apply bA_ | apply bN_ | apply bD_) | exact HB.out)) : Q := g
set_option maxHeartbeats 8000000 in
set_option maxRecDepth 100000 in
theorem impl_CondAnd.calls (k : Nat) (a0_0 : Int) (a0_1 : Int) (a0_2 : Int) (A0_3 : Option Addr) (c0_3 : Nat) (l0_3 : List (S29)) (a1_0 : Int) (a1_1 : Int) (a1_2 : Int) (A1_3 : Option Addr) (c1_3 : Nat) (l1_3 : List (S29)) (r1 : Int) (r2 : Int) (r3 : Int) (r4 : List (S29)) (w : World) (hr0_3 : Kd.C k29 w A0_3 l0_3.length l0_3) (hc0_3 : l0_3.length ≤ c0_3) (hr1_3 : Kd.C k29 w A1_3 l1_3.length l1_3) (hc1_3 : l1_3.length ≤ c1_3) (h : impl_CondAnd.f k a0_0 a0_1 a0_2 l0_3 a1_0 a1_1 a1_2 l1_3 = some (r1, r2, r3, r4)) :
    Calls Try.prog 17 #[.agg #[.int .i64 a0_0, .int .i64 a0_1, .int .i64 a0_2, .slice A0_3 l0_3.length c0_3], .agg #[.int .i64 a1_0, .int .i64 a1_1, .int .i64 a1_2, .slice A1_3 l1_3.length c1_3]] w fun e w' => ∃ v3_ : Value, e = .returned (.agg #[.int .i64 r1, .int .i64 r2, .int .i64 r3, v3_]) ∧ Kd.S k29 29 w' w.heap.size (fun k_ => (w.heap.size ≤ k_)) v3_ r4 ∧ Below w.heap.size w w' := by
  have hu29 := Try.underlying29
  have HR0_3 := Aside0.mk hr0_3
  have HC0_3 := Aside0.mk hc0_3
  clear hr0_3 hc0_3
  have HR1_3 := Aside0.mk hr1_3
  have HC1_3 := Aside0.mk hc1_3
  clear hr1_3 hc1_3
  have HB := Aside0.mk (Below.refl w.heap.size w)
  have H : ((impl_copyCond.f k a0_0 a0_1 a0_2 l0_3).bind fun bt398 => ((impl_copyCond.f k a1_0 a1_1 a1_2 l1_3).bind fun bt404 => (some (8, 0, 0, (([(⟨bt398.1, bt398.2.1, bt398.2.2.1, bt398.2.2.2⟩ : S29), (⟨bt404.1, bt404.2.1, bt404.2.2.1, bt404.2.2.2⟩ : S29)] : List (S29))))))) = some (r1, r2, r3, r4) := h
  clear h
  replace H := Option.bind_eq_some_iff.mp H
  obtain ⟨⟨t398, t399, t400, t401⟩, A30, H⟩ := H
  replace H : ((impl_copyCond.f k a1_0 a1_1 a1_2 l1_3).bind fun bt404 => (some (8, 0, 0, (([(⟨t398, t399, t400, t401⟩ : S29), (⟨bt404.1, bt404.2.1, bt404.2.2.1, bt404.2.2.2⟩ : S29)] : List (S29)))))) = some (r1, r2, r3, r4) := H
  have A3 := Aside0.mk A30
  clear A30
  replace H := Option.bind_eq_some_iff.mp H
  obtain ⟨⟨t404, t405, t406, t407⟩, A40, H⟩ := H
  replace H : (some (8, 0, 0, (([(⟨t398, t399, t400, t401⟩ : S29), (⟨t404, t405, t406, t407⟩ : S29)] : List (S29))))) = some (r1, r2, r3, r4) := H
  have A4 := Aside0.mk A40
  clear A40
  obtain ⟨y410, hy410⟩ : ∃ y_ : List (S29), y_ = (([(⟨t398, t399, t400, t401⟩ : S29), (⟨t404, t405, t406, t407⟩ : S29)] : List (S29))) := ⟨_, rfl⟩
  replace H : (some (8, 0, 0, y410)) = some (r1, r2, r3, r4) := by first | (rw [hy410]; with_reducible exact H) | (have H2_ := (Option.bind_some _ _).symm.trans H; rw [hy410]; with_reducible exact H2_) | (have H2_ := (Option.bind_some _ _).symm.trans H; with_reducible exact H2_) | with_reducible exact H | (rw [hy410]; exact H) | exact H
  have Ny410 := Aside0.mk hy410
  clear hy410
  simp only [Option.some.injEq, Prod.mk.injEq] at H
  obtain ⟨rfl, rfl, rfl, rfl⟩ := H
  go_enter Try.func17, Try.ntmps17
  try go_wp2_with (first | ((with_reducible refine gate_dst (N := 2) rfl ?_); refine box_event ?hg (N := 2) ?hd (cs := #[.int .i64 a0_0, .int .i64 a0_1, .int .i64 a0_2, .slice A0_3 l0_3.length c0_3]) (t := 29) ?hr ?_; (case hd => rfl); (case hg => rfl); (case hr => first | (go_simp; done) | (go_simp; rfl)); intro gb395 hg w5 hbox hb; have n0_ := Aside0.mk (below_step z17_4 hb); have n1_ := Aside0.mk (hbox); have n2_ := Aside0.mk ((by rw [hg]; exact (below_size z17_4) : w.heap.size ≤ gb395)); have n3_ := Aside0.mk ((by rw [hg]; exact (below_size z17_4) : w.heap.size ≤ gb395)); clear HB; have HB := n0_; have BK395 := n1_; have GW395 := n2_; have GE395 := n3_; clear n0_ n1_ n2_ n3_; clear hb hbox hg) | ((with_reducible refine gate_dst (N := 3) rfl ?_); refine box_event ?hg (N := 3) ?hd (cs := #[.int .i64 a1_0, .int .i64 a1_1, .int .i64 a1_2, .slice A1_3 l1_3.length c1_3]) (t := 29) ?hr ?_; (case hd => rfl); (case hg => rfl); (case hr => first | (go_simp; done) | (go_simp; rfl)); intro gb396 hg w6 hbox hb; have n0_ := Aside0.mk (blk_below (g := gb395) (o := .cells #[.int .i64 a0_0, .int .i64 a0_1, .int .i64 a0_2, .slice A0_3 l0_3.length c0_3] 29 (0, 0)) (pB17_ BK395.out) hb); have n1_ := Aside0.mk (below_step z17_2 hb); have n2_ := Aside0.mk (hbox); have n3_ := Aside0.mk ((by rw [hg]; exact (below_size z17_2) : w.heap.size ≤ gb396)); have n4_ := Aside0.mk ((by rw [hg]; exact (below_size z17_2) : w.heap.size ≤ gb396)); have n5_ := Aside0.mk ((by rw [hg]; exact Nat.ne_of_lt (blk_lt (g := gb395) (o := .cells #[.int .i64 a0_0, .int .i64 a0_1, .int .i64 a0_2, .slice A0_3 l0_3.length c0_3] 29 (0, 0)) (pB17_ BK395.out)) : gb395 ≠ gb396)); have n6_ := Aside0.mk ((by rw [hg]; exact Nat.ne_of_gt (blk_lt (g := gb395) (o := .cells #[.int .i64 a0_0, .int .i64 a0_1, .int .i64 a0_2, .slice A0_3 l0_3.length c0_3] 29 (0, 0)) (pB17_ BK395.out)) : gb396 ≠ gb395)); clear BK395; clear HB; have BK395 := n0_; have HB := n1_; have BK396 := n2_; have GW396 := n3_; have GE396 := n4_; have NB395_396 := n5_; have NB396_395 := n6_; clear n0_ n1_ n2_ n3_ n4_ n5_ n6_; clear hb hbox hg) | ((with_reducible refine gate_dst (N := 4) rfl ?_); refine box_event ?hg (N := 4) ?hd (cs := #[.int .i64 0, .int .i64 0, .int .i64 0, .slice none 0 0]) (t := 29) ?hr ?_; (case hd => rfl); (case hg => rfl); (case hr => first | (go_simp; done) | (go_simp; rfl)); intro gb397 hg w7 hbox hb; have n0_ := Aside0.mk (blk_below (g := gb395) (o := .cells #[.int .i64 a0_0, .int .i64 a0_1, .int .i64 a0_2, .slice A0_3 l0_3.length c0_3] 29 (0, 0)) (pB17_ BK395.out) hb); have n1_ := Aside0.mk (blk_below (g := gb396) (o := .cells #[.int .i64 a1_0, .int .i64 a1_1, .int .i64 a1_2, .slice A1_3 l1_3.length c1_3] 29 (0, 0)) (pB17_ BK396.out) hb); have n2_ := Aside0.mk (below_step z17_1 hb); have n3_ := Aside0.mk (hbox); have n4_ := Aside0.mk ((by rw [hg]; exact (below_size z17_1) : w.heap.size ≤ gb397)); have n5_ := Aside0.mk ((by rw [hg]; exact (below_size z17_1) : w.heap.size ≤ gb397)); have n6_ := Aside0.mk ((by rw [hg]; exact Nat.ne_of_lt (blk_lt (g := gb395) (o := .cells #[.int .i64 a0_0, .int .i64 a0_1, .int .i64 a0_2, .slice A0_3 l0_3.length c0_3] 29 (0, 0)) (pB17_ BK395.out)) : gb395 ≠ gb397)); have n7_ := Aside0.mk ((by rw [hg]; exact Nat.ne_of_gt (blk_lt (g := gb395) (o := .cells #[.int .i64 a0_0, .int .i64 a0_1, .int .i64 a0_2, .slice A0_3 l0_3.length c0_3] 29 (0, 0)) (pB17_ BK395.out)) : gb397 ≠ gb395)); have n8_ := Aside0.mk ((by rw [hg]; exact Nat.ne_of_lt (blk_lt (g := gb396) (o := .cells #[.int .i64 a1_0, .int .i64 a1_1, .int .i64 a1_2, .slice A1_3 l1_3.length c1_3] 29 (0, 0)) (pB17_ BK396.out)) : gb396 ≠ gb397)); have n9_ := Aside0.mk ((by rw [hg]; exact Nat.ne_of_gt (blk_lt (g := gb396) (o := .cells #[.int .i64 a1_0, .int .i64 a1_1, .int .i64 a1_2, .slice A1_3 l1_3.length c1_3] 29 (0, 0)) (pB17_ BK396.out)) : gb397 ≠ gb396)); clear BK395; clear BK396; clear HB; have BK395 := n0_; have BK396 := n1_; have HB := n2_; have BK397 := n3_; have GW397 := n4_; have GE397 := n5_; have NB395_397 := n6_; have NB397_395 := n7_; have NB396_397 := n8_; have NB397_396 := n9_; clear n0_ n1_ n2_ n3_ n4_ n5_ n6_ n7_ n8_ n9_; clear hb hbox hg))
  have n0_ := Aside0.mk (blk_drew BK395.out)
  have n1_ := Aside0.mk (blk_drew BK396.out)
  have n2_ := Aside0.mk (blk_drew BK397.out)
  have n3_ := Aside0.mk (bD_ HB.out)
  clear BK395
  clear BK396
  clear BK397
  clear HB
  have BK395 := n0_
  have BK396 := n1_
  have BK397 := n2_
  have HB := n3_
  clear n0_ n1_ n2_ n3_
  refine start_ (n := 7) (S := fun w' => w'.cell? ⟨gb395, 0, none⟩ = some (.int .i64 a0_0) ∧ w'.cell? ⟨gb395, 1, none⟩ = some (.int .i64 a0_1) ∧ w'.cell? ⟨gb395, 2, none⟩ = some (.int .i64 a0_2) ∧ w'.cell? ⟨gb395, 3, none⟩ = some (.slice A0_3 l0_3.length c0_3) ∧ w'.cell? ⟨gb396, 0, none⟩ = some (.int .i64 a1_0) ∧ w'.cell? ⟨gb396, 1, none⟩ = some (.int .i64 a1_1) ∧ w'.cell? ⟨gb396, 2, none⟩ = some (.int .i64 a1_2) ∧ w'.cell? ⟨gb396, 3, none⟩ = some (.slice A1_3 l1_3.length c1_3)) (ds := []) #[false, false, false, false, false, false, false] (by kernel_rfl) rfl rfl ⟨(bC_ BK395.out 0).trans rfl, (bC_ BK395.out 1).trans rfl, (bC_ BK395.out 2).trans rfl, (bC_ BK395.out 3).trans rfl, (bC_ BK396.out 0).trans rfl, (bC_ BK396.out 1).trans rfl, (bC_ BK396.out 2).trans rfl, (bC_ BK396.out 3).trans rfl⟩ (fun hHeld => ?_)
  generalize w7.drew = w8 at BK395 BK396 BK397 HB hHeld ⊢
  refine take_ (i := 0) (N := some 5) (v := ?_) (a' := ?_) #[true, false, false, false, false, false, false] rfl rfl (by kernel_rfl) (fun _ _ _ h => h) (Or.inl ⟨by rfl, ?_⟩) hHeld ?_ ?_
  rotate_left
  · rintro w' ⟨s0, s1, s2, s3, s4, s5, s6, s7⟩
    go_simp
    with_reducible rfl
  rotate_left
  · simp only [Act.put, List.setIfInBounds_toArray, List.set_cons_zero, List.set_cons_succ, i64_w, i32_w]
    rfl
  refine take_ (i := 2) (N := some 7) (v := ?_) (a' := ?_) #[true, false, true, false, false, false, false] rfl rfl (by kernel_rfl) (fun _ _ _ h => h) (Or.inl ⟨by rfl, ?_⟩) hHeld ?_ ?_
  rotate_left
  · rintro w' ⟨s0, s1, s2, s3, s4, s5, s6, s7⟩
    go_simp
    with_reducible rfl
  rotate_left
  · simp only [Act.put, List.setIfInBounds_toArray, List.set_cons_zero, List.set_cons_succ, i64_w, i32_w]
    rfl
  refine one_ (i := 1) (N := some 6) #[true, true, true, false, false, false, false] rfl rfl (by kernel_rfl) (by decide) (fun K hK => ?_)
  refine goes_ Try.func28 (by kernel_rfl) rfl #[.agg #[.int .i64 a0_0, .int .i64 a0_1, .int .i64 a0_2, .slice A0_3 l0_3.length c0_3]] (by rfl) rfl rfl (by (try simp only [List.map_toArray, List.map_cons, List.map_nil]); first | done | rfl | (simp only [List.length_drop, List.length_take]; rfl)) ?_
  with_reducible refine (impl_copyCond.calls k a0_0 a0_1 a0_2 _ _ l0_3 t398 t399 t400 t401 _ ?side1 ?side2 A3.out).mono ?_
  (case side1 => repeat (first | exact (Kd.C_below HR0_3.out HB.out) | (with_reducible refine Kd.C_alloc ?_ _) | (with_reducible refine Kd.C_drewN ?_ _) | (with_reducible refine Kd.C_drew ?_)))
  (case side2 => exact HC0_3.out)
  rintro e w9 ⟨v402, rfl, ho0, hb⟩
  refine ⟨_, rfl, ?_⟩
  have n0_ := Aside0.mk (Kd.S_lower (Kd.S_mono (ok' := fun k_ => (w.heap.size ≤ k_) ∧ k_ ≠ gb395 ∧ k_ ≠ gb396 ∧ k_ ≠ gb397) (Kd.S_bound ho0) (fun k_ hk_ => ⟨(Nat.le_trans (below_size z17_0) hk_.2.1), (Kd.freshB (g := gb395) (o := .cells #[.int .i64 a0_0, .int .i64 a0_1, .int .i64 a0_2, .slice A0_3 l0_3.length c0_3] 29 (0, 0)) (pB17_ BK395.out) k_ hk_.2.1), (Kd.freshB (g := gb396) (o := .cells #[.int .i64 a1_0, .int .i64 a1_1, .int .i64 a1_2, .slice A1_3 l1_3.length c1_3] 29 (0, 0)) (pB17_ BK396.out) k_ hk_.2.1), (Kd.freshB (g := gb397) (o := .cells #[.int .i64 0, .int .i64 0, .int .i64 0, .slice none 0 0] 29 (0, 0)) (pB17_ BK397.out) k_ hk_.2.1)⟩)) (below_size z17_0))
  have n1_ := Aside0.mk (blk_below (g := gb395) (o := .cells #[.int .i64 a0_0, .int .i64 a0_1, .int .i64 a0_2, .slice A0_3 l0_3.length c0_3] 29 (0, 0)) (pB17_ BK395.out) hb)
  have n2_ := Aside0.mk (blk_below (g := gb396) (o := .cells #[.int .i64 a1_0, .int .i64 a1_1, .int .i64 a1_2, .slice A1_3 l1_3.length c1_3] 29 (0, 0)) (pB17_ BK396.out) hb)
  have n3_ := Aside0.mk (blk_below (g := gb397) (o := .cells #[.int .i64 0, .int .i64 0, .int .i64 0, .slice none 0 0] 29 (0, 0)) (pB17_ BK397.out) hb)
  have n4_ := Aside0.mk (below_step z17_0 hb)
  clear BK395
  clear BK396
  clear BK397
  clear HB
  have HO403 := n0_
  have BK395 := n1_
  have BK396 := n2_
  have BK397 := n3_
  have HB := n4_
  clear n0_ n1_ n2_ n3_ n4_
  (try clear hb)
  (try clear hb2)
  (try clear hk)
  (try clear hi)
  (try clear ho0)
  refine hK.out _ _ ⟨(bC_ BK395.out 0).trans rfl, (bC_ BK395.out 1).trans rfl, (bC_ BK395.out 2).trans rfl, (bC_ BK395.out 3).trans rfl, (bC_ BK396.out 0).trans rfl, (bC_ BK396.out 1).trans rfl, (bC_ BK396.out 2).trans rfl, (bC_ BK396.out 3).trans rfl⟩ (fun hHeld => ?_)
  clear hK K
  refine norm_ (a' := ?_) ?_ ?_
  rotate_left
  · show Act.put _ (some 6) _ = _
    simp only [Act.put, List.setIfInBounds_toArray, List.set_cons_zero, List.set_cons_succ, i64_w, i32_w]
    rfl
  refine one_ (i := 3) (N := some 8) #[true, true, true, true, false, false, false] rfl rfl (by kernel_rfl) (by decide) (fun K hK => ?_)
  refine goes_ Try.func28 (by kernel_rfl) rfl #[.agg #[.int .i64 a1_0, .int .i64 a1_1, .int .i64 a1_2, .slice A1_3 l1_3.length c1_3]] (by rfl) rfl rfl (by (try simp only [List.map_toArray, List.map_cons, List.map_nil]); first | done | rfl | (simp only [List.length_drop, List.length_take]; rfl)) ?_
  with_reducible refine (impl_copyCond.calls k a1_0 a1_1 a1_2 _ _ l1_3 t404 t405 t406 t407 _ ?side1 ?side2 A4.out).mono ?_
  (case side1 => repeat (first | exact (Kd.C_below HR1_3.out HB.out) | (with_reducible refine Kd.C_alloc ?_ _) | (with_reducible refine Kd.C_drewN ?_ _) | (with_reducible refine Kd.C_drew ?_)))
  (case side2 => exact HC1_3.out)
  rintro e w10 ⟨v408, rfl, ho0, hb⟩
  refine ⟨_, rfl, ?_⟩
  have n0_ := Aside0.mk (Kd.S_elder' z17_3 (Kd.S_base ho0) hb)
  have n1_ := Aside0.mk (Kd.S_lower (Kd.S_mono (ok' := fun k_ => (w.heap.size ≤ k_) ∧ some k_ ≠ (v402 : Value).ownBlock ∧ k_ ≠ gb395 ∧ k_ ≠ gb396 ∧ k_ ≠ gb397) (Kd.S_bound ho0) (fun k_ hk_ => ⟨(Nat.le_trans (below_size z17_0) hk_.2.1), (Kd.fresh' (Kd.S_lt z17_3) k_ hk_.2.1), (Kd.freshB (g := gb395) (o := .cells #[.int .i64 a0_0, .int .i64 a0_1, .int .i64 a0_2, .slice A0_3 l0_3.length c0_3] 29 (0, 0)) (pB17_ BK395.out) k_ hk_.2.1), (Kd.freshB (g := gb396) (o := .cells #[.int .i64 a1_0, .int .i64 a1_1, .int .i64 a1_2, .slice A1_3 l1_3.length c1_3] 29 (0, 0)) (pB17_ BK396.out) k_ hk_.2.1), (Kd.freshB (g := gb397) (o := .cells #[.int .i64 0, .int .i64 0, .int .i64 0, .slice none 0 0] 29 (0, 0)) (pB17_ BK397.out) k_ hk_.2.1)⟩)) (below_size z17_0))
  obtain ⟨NC0, HEC0, HRC0⟩ := Go.Proofs.YthjhenhmjmpkaaaTree.S_split z17_3 (Kd.S_mono (ok' := fun k_ => (w.heap.size ≤ k_) ∧ some k_ ≠ (v402 : Value).ownBlock ∧ k_ ≠ gb395 ∧ k_ ≠ gb396 ∧ k_ ≠ gb397) (Kd.S_bound ho0) (fun k_ hk_ => ⟨(Nat.le_trans (below_size z17_0) hk_.2.1), (Kd.fresh' (Kd.S_lt z17_3) k_ hk_.2.1), (Kd.freshB (g := gb395) (o := .cells #[.int .i64 a0_0, .int .i64 a0_1, .int .i64 a0_2, .slice A0_3 l0_3.length c0_3] 29 (0, 0)) (pB17_ BK395.out) k_ hk_.2.1), (Kd.freshB (g := gb396) (o := .cells #[.int .i64 a1_0, .int .i64 a1_1, .int .i64 a1_2, .slice A1_3 l1_3.length c1_3] 29 (0, 0)) (pB17_ BK396.out) k_ hk_.2.1), (Kd.freshB (g := gb397) (o := .cells #[.int .i64 0, .int .i64 0, .int .i64 0, .slice none 0 0] 29 (0, 0)) (pB17_ BK397.out) k_ hk_.2.1)⟩)) hb (below_size z17_0)
  have n2_ := Aside0.mk (blk_below (g := gb395) (o := .cells #[.int .i64 a0_0, .int .i64 a0_1, .int .i64 a0_2, .slice A0_3 l0_3.length c0_3] 29 (0, 0)) (pB17_ BK395.out) hb)
  have n3_ := Aside0.mk (blk_below (g := gb396) (o := .cells #[.int .i64 a1_0, .int .i64 a1_1, .int .i64 a1_2, .slice A1_3 l1_3.length c1_3] 29 (0, 0)) (pB17_ BK396.out) hb)
  have n4_ := Aside0.mk (blk_below (g := gb397) (o := .cells #[.int .i64 0, .int .i64 0, .int .i64 0, .slice none 0 0] 29 (0, 0)) (pB17_ BK397.out) hb)
  have n5_ := Aside0.mk (below_step z17_0 hb)
  clear HO403
  clear BK395
  clear BK396
  clear BK397
  clear HB
  have HO403 := n0_
  have HO409 := n1_
  have BK395 := n2_
  have BK396 := n3_
  have BK397 := n4_
  have HB := n5_
  clear n0_ n1_ n2_ n3_ n4_ n5_
  (try clear hb)
  (try clear hb2)
  (try clear hk)
  (try clear hi)
  (try clear ho0)
  obtain ⟨Ao11, co11, eo11⟩ := Kd.S_slice HO403.out
  (first | subst eo11 | (injection eo11 with f1_ f2_ f3_; have f4_ := f1_.symm; have f5_ := f3_.symm; clear f1_ f2_ f3_; subst f4_; subst f5_))
  obtain ⟨Ao12, co12, eo12⟩ := Kd.S_slice HO409.out
  (first | subst eo12 | (injection eo12 with f1_ f2_ f3_; have f4_ := f1_.symm; have f5_ := f3_.symm; clear f1_ f2_ f3_; subst f4_; subst f5_))
  refine hK.out _ _ ⟨(bC_ BK395.out 0).trans rfl, (bC_ BK395.out 1).trans rfl, (bC_ BK395.out 2).trans rfl, (bC_ BK395.out 3).trans rfl, (bC_ BK396.out 0).trans rfl, (bC_ BK396.out 1).trans rfl, (bC_ BK396.out 2).trans rfl, (bC_ BK396.out 3).trans rfl⟩ (fun hHeld => ?_)
  clear hK K
  refine norm_ (a' := ?_) ?_ ?_
  rotate_left
  · show Act.put _ (some 8) _ = _
    simp only [Act.put, List.setIfInBounds_toArray, List.set_cons_zero, List.set_cons_succ, i64_w, i32_w]
    rfl
  refine one_ (i := 4) (N := some 9) #[true, true, true, true, true, false, false] rfl rfl (by kernel_rfl) (by decide) (fun K hK => ?_)
  refine Kd.S_lits_step k29 w.heap.size 29 ?hg (N := 9) ?hd (xs := ([(⟨t398, t399, t400, t401⟩ : S29), (⟨t404, t405, t406, t407⟩ : S29)] : List (S29))) (inner := [.int .i64 t398, .int .i64 t399, .int .i64 t400, .slice Ao11 t401.length co11, .int .i64 t404, .int .i64 t405, .int .i64 t406, .slice Ao12 t407.length co12]) (ok := (fun k_ => (w.heap.size ≤ k_) ∧ k_ ≠ gb395 ∧ k_ ≠ gb396 ∧ k_ ≠ gb397)) (Go.Proofs.YthjhenhmjmpkaaaTree.okj2 (fun k_ => (w.heap.size ≤ k_) ∧ k_ ≠ gb395 ∧ k_ ≠ gb396 ∧ k_ ≠ gb397) NC0) ?hr rfl ?hp (Go.Proofs.YthjhenhmjmpkaaaTree.okj2_ap _ _) (Go.Proofs.YthjhenhmjmpkaaaTree.okj2_ok _ _) ((show ∀ k_, w10.heap.size ≤ k_ → (fun k_ => (w.heap.size ≤ k_) ∧ k_ ≠ gb395 ∧ k_ ≠ gb396 ∧ k_ ≠ gb397) k_ from fun k_ hk => ⟨(Nat.le_trans (below_size z17_0) hk), Kd.freshB (g := gb395) (o := .cells #[.int .i64 a0_0, .int .i64 a0_1, .int .i64 a0_2, .slice A0_3 l0_3.length c0_3] 29 (0, 0)) (pB17_ BK395.out) k_ hk, Kd.freshB (g := gb396) (o := .cells #[.int .i64 a1_0, .int .i64 a1_1, .int .i64 a1_2, .slice A1_3 l1_3.length c1_3] 29 (0, 0)) (pB17_ BK396.out) k_ hk, Kd.freshB (g := gb397) (o := .cells #[.int .i64 0, .int .i64 0, .int .i64 0, .slice none 0 0] 29 (0, 0)) (pB17_ BK397.out) k_ hk⟩) _ (Nat.le_refl _)) (Below.refl _ _) (below_size z17_0) (by simp) ?_; (case hd => rfl); (case hg => rfl); (case hr => first | (go_simp; done) | (go_simp; rfl)); (case hp => exact Go.Proofs.YthjhenhmjmpkaaaTree.lit2 (c0 := [.int .i64 t398, .int .i64 t399, .int .i64 t400, .slice Ao11 t401.length co11]) (c1 := [.int .i64 t404, .int .i64 t405, .int .i64 t406, .slice Ao12 t407.length co12]) (k29_mkM _ _ _ (⟨t398, t399, t400, t401⟩ : S29) (Kd.S_mono (ok' := fun k_ => ((fun k_ => (w.heap.size ≤ k_) ∧ k_ ≠ gb395 ∧ k_ ≠ gb396 ∧ k_ ≠ gb397)) k_ ∧ k_ < NC0) HEC0.out (fun k_ hk_ => ⟨hk_.1, hk_.2⟩))) (k29_mkM _ _ _ (⟨t404, t405, t406, t407⟩ : S29) (Kd.S_mono (ok' := fun k_ => ((fun k_ => (w.heap.size ≤ k_) ∧ k_ ≠ gb395 ∧ k_ ≠ gb396 ∧ k_ ≠ gb397)) k_ ∧ NC0 ≤ k_) HRC0.out (fun k_ hk_ => ⟨⟨hk_.1.1, hk_.1.2.2⟩, hk_.2⟩))))
  intro v411 w13 ho14 hb hg_ hnew_
  replace hb := pw_below_grown (Below.refl _ _) none (Nat.le_refl _) hg_ (fun k hk => by cases hk)
  clear hg_ hnew_
  (first | rw [← Ny410.out] at ho14 | (simp only [Int.reduceToNat] at ho14; rw [← Ny410.out] at ho14))
  have n0_ := Aside0.mk ho14
  have n1_ := Aside0.mk (blk_below (g := gb395) (o := .cells #[.int .i64 a0_0, .int .i64 a0_1, .int .i64 a0_2, .slice A0_3 l0_3.length c0_3] 29 (0, 0)) (pB17_ BK395.out) hb)
  have n2_ := Aside0.mk (blk_below (g := gb396) (o := .cells #[.int .i64 a1_0, .int .i64 a1_1, .int .i64 a1_2, .slice A1_3 l1_3.length c1_3] 29 (0, 0)) (pB17_ BK396.out) hb)
  have n3_ := Aside0.mk (blk_below (g := gb397) (o := .cells #[.int .i64 0, .int .i64 0, .int .i64 0, .slice none 0 0] 29 (0, 0)) (pB17_ BK397.out) hb)
  have n4_ := Aside0.mk (below_step z17_0 hb)
  clear BK395
  clear BK396
  clear BK397
  clear HB
  clear HO403
  clear HO409
  have HO412 := n0_
  have BK395 := n1_
  have BK396 := n2_
  have BK397 := n3_
  have HB := n4_
  clear n0_ n1_ n2_ n3_ n4_
  clear hb ho14
  obtain ⟨Ao15, co15, eo15⟩ := Kd.S_slice HO412.out
  (first | subst eo15 | (injection eo15 with f1_ f2_ f3_; have f4_ := f1_.symm; have f5_ := f3_.symm; clear f1_ f2_ f3_; subst f4_; subst f5_))
  refine hK.out _ _ ⟨(bC_ BK395.out 0).trans rfl, (bC_ BK395.out 1).trans rfl, (bC_ BK395.out 2).trans rfl, (bC_ BK395.out 3).trans rfl, (bC_ BK396.out 0).trans rfl, (bC_ BK396.out 1).trans rfl, (bC_ BK396.out 2).trans rfl, (bC_ BK396.out 3).trans rfl⟩ (fun hHeld => ?_)
  clear hK K
  refine norm_ (a' := ?_) ?_ ?_
  rotate_left
  · show Act.put _ (some 9) _ = _
    simp only [Act.put, List.setIfInBounds_toArray, List.set_cons_zero, List.set_cons_succ, i64_w, i32_w]
    rfl
  refine pure_ (i := 5) (N := some 10) (v := ?_) (a' := ?_) #[true, true, true, true, true, true, false] rfl rfl (by kernel_rfl) (fun _ _ _ h => h) (Or.inl ⟨by rfl, ?_⟩) ?_ ?_
  rotate_left
  · intro w'
    go_simp
    with_reducible rfl
  rotate_left
  · simp only [Act.put, List.setIfInBounds_toArray, List.set_cons_zero, List.set_cons_succ, i64_w, i32_w]
    rfl
  refine one_ (i := 6) (N := none) #[true, true, true, true, true, true, true] rfl rfl (by kernel_rfl) (by decide) (fun K hK => ?_)
  have hs16 : w13.cell? ⟨gb397, 0, none⟩ = some (.int .i64 0) := (bC_ BK397.out 0).trans rfl
  have hfs16 := bF_ BK397.out 0
  have hns16_0 := NB395_397.out
  have hns16_1 := NB396_397.out
  have hms16_0 := NB397_395.out
  have hms16_1 := NB397_396.out
  have hs17 : w13.cell? ⟨gb397, 1, none⟩ = some (.int .i64 0) := (bC_ BK397.out 1).trans rfl
  have hfs17 := bF_ BK397.out 1
  have hns17_0 := NB395_397.out
  have hns17_1 := NB396_397.out
  have hms17_0 := NB397_395.out
  have hms17_1 := NB397_396.out
  have hs18 : w13.cell? ⟨gb397, 2, none⟩ = some (.int .i64 0) := (bC_ BK397.out 2).trans rfl
  have hfs18 := bF_ BK397.out 2
  have hns18_0 := NB395_397.out
  have hns18_1 := NB396_397.out
  have hms18_0 := NB397_395.out
  have hms18_1 := NB397_396.out
  have hs19 : w13.cell? ⟨gb397, 3, none⟩ = some (.slice none 0 0) := (bC_ BK397.out 3).trans rfl
  have hfs19 := bF_ BK397.out 3
  have hns19_0 := NB395_397.out
  have hns19_1 := NB396_397.out
  have hms19_0 := NB397_395.out
  have hms19_1 := NB397_396.out
  refine skip_ (w1 := ?_) (by rfl) rfl ?_ ?_
  rotate_left
  · go_simp
    rfl
  refine hK.out _ _ ⟨((cell_far (p := ⟨gb397, _, none⟩) NB395_397.out _).trans (((cell_far (p := ⟨gb397, _, none⟩) NB395_397.out _).trans (((cell_far (p := ⟨gb397, _, none⟩) NB395_397.out _).trans (((cell_far (p := ⟨gb397, _, none⟩) NB395_397.out _).trans (hHeld.1)))))))), ((cell_far (p := ⟨gb397, _, none⟩) NB395_397.out _).trans (((cell_far (p := ⟨gb397, _, none⟩) NB395_397.out _).trans (((cell_far (p := ⟨gb397, _, none⟩) NB395_397.out _).trans (((cell_far (p := ⟨gb397, _, none⟩) NB395_397.out _).trans (hHeld.2.1)))))))), ((cell_far (p := ⟨gb397, _, none⟩) NB395_397.out _).trans (((cell_far (p := ⟨gb397, _, none⟩) NB395_397.out _).trans (((cell_far (p := ⟨gb397, _, none⟩) NB395_397.out _).trans (((cell_far (p := ⟨gb397, _, none⟩) NB395_397.out _).trans (hHeld.2.2.1)))))))), ((cell_far (p := ⟨gb397, _, none⟩) NB395_397.out _).trans (((cell_far (p := ⟨gb397, _, none⟩) NB395_397.out _).trans (((cell_far (p := ⟨gb397, _, none⟩) NB395_397.out _).trans (((cell_far (p := ⟨gb397, _, none⟩) NB395_397.out _).trans (hHeld.2.2.2.1)))))))), ((cell_far (p := ⟨gb397, _, none⟩) NB396_397.out _).trans (((cell_far (p := ⟨gb397, _, none⟩) NB396_397.out _).trans (((cell_far (p := ⟨gb397, _, none⟩) NB396_397.out _).trans (((cell_far (p := ⟨gb397, _, none⟩) NB396_397.out _).trans (hHeld.2.2.2.2.1)))))))), ((cell_far (p := ⟨gb397, _, none⟩) NB396_397.out _).trans (((cell_far (p := ⟨gb397, _, none⟩) NB396_397.out _).trans (((cell_far (p := ⟨gb397, _, none⟩) NB396_397.out _).trans (((cell_far (p := ⟨gb397, _, none⟩) NB396_397.out _).trans (hHeld.2.2.2.2.2.1)))))))), ((cell_far (p := ⟨gb397, _, none⟩) NB396_397.out _).trans (((cell_far (p := ⟨gb397, _, none⟩) NB396_397.out _).trans (((cell_far (p := ⟨gb397, _, none⟩) NB396_397.out _).trans (((cell_far (p := ⟨gb397, _, none⟩) NB396_397.out _).trans (hHeld.2.2.2.2.2.2.1)))))))), ((cell_far (p := ⟨gb397, _, none⟩) NB396_397.out _).trans (((cell_far (p := ⟨gb397, _, none⟩) NB396_397.out _).trans (((cell_far (p := ⟨gb397, _, none⟩) NB396_397.out _).trans (((cell_far (p := ⟨gb397, _, none⟩) NB396_397.out _).trans (hHeld.2.2.2.2.2.2.2))))))))⟩ (fun hHeld => ?_)
  clear hK K
  refine done_ (by kernel_rfl) ?_
  try go_wp2
  refine bodyPost_ret (results_cell_row rfl _ _ gb397 29 #[.int .i64 8, .int .i64 0, .int .i64 0, .slice Ao15 y410.length co15] (0, 0) _ rfl (by (with_reducible repeat (first | refine blk_drewN ?_ _ | refine blk_drew ?_ | refine blk_alloc ?_ _)); refine blk_put (cs := #[.int .i64 8, .int .i64 0, .int .i64 0, .slice none 0 0]) ?_ 3 _ rfl; (with_reducible repeat (first | refine blk_drewN ?_ _ | refine blk_drew ?_ | refine blk_alloc ?_ _)); refine blk_put (cs := #[.int .i64 8, .int .i64 0, .int .i64 0, .slice none 0 0]) ?_ 2 _ rfl; (with_reducible repeat (first | refine blk_drewN ?_ _ | refine blk_drew ?_ | refine blk_alloc ?_ _)); refine blk_put (cs := #[.int .i64 8, .int .i64 0, .int .i64 0, .slice none 0 0]) ?_ 1 _ rfl; (with_reducible repeat (first | refine blk_drewN ?_ _ | refine blk_drew ?_ | refine blk_alloc ?_ _)); refine blk_put (cs := #[.int .i64 0, .int .i64 0, .int .i64 0, .slice none 0 0]) ?_ 0 _ rfl; (with_reducible repeat (first | refine blk_drewN ?_ _ | refine blk_drew ?_ | refine blk_alloc ?_ _)); exact BK397.out) Try.underlying29 rfl (by kernel_rfl)) rfl ?_
  exact ⟨_, by first | rfl | (simp [errW_none, errW_some] <;> rfl) | (simp [*, errW_none, errW_some] <;> rfl), by (with_reducible repeat (first | apply Kd.S_alloc | apply Kd.S_drewN | apply Kd.S_drew)); exact Kd.S_mono (Kd.S_far (p := ⟨gb397, 3, none⟩) (Kd.S_far (p := ⟨gb397, 2, none⟩) (Kd.S_far (p := ⟨gb397, 1, none⟩) (Kd.S_far (p := ⟨gb397, 0, none⟩) (Kd.S_mono HO412.out (fun k_ hk => (⟨hk, hk.2.2.2⟩ : _ ∧ k_ ≠ gb397))) (fun _ hk => hk.2) (.int .i64 8)) (fun _ hk => hk.2) (.int .i64 0)) (fun _ hk => hk.2) (.int .i64 0)) (fun _ hk => hk.2) (.slice Ao15 y410.length co15)) (fun _ hk => hk.1.1), by repeat (first | (with_reducible first | exact HB.out | apply bA_ | apply bN_ | apply bD_ | refine bS_ ?_ GE395.out | refine bS_ ?_ GE396.out | refine bS_ ?_ GE397.out) | exact HB.out)⟩

/-! ### impl_CondOr: function 18 -/
def impl_CondOr.f (k : Nat) (a0_0 : Int) (a0_1 : Int) (a0_2 : Int) (l0_3 : List (S29)) (a1_0 : Int) (a1_1 : Int) (a1_2 : Int) (l1_3 : List (S29)) : Option (Int × Int × Int × (List (S29))) := (impl_copyCond.f k a0_0 a0_1 a0_2 l0_3).bind fun bt416 => ((impl_copyCond.f k a1_0 a1_1 a1_2 l1_3).bind fun bt422 => (some (9, 0, 0, (([(⟨bt416.1, bt416.2.1, bt416.2.2.1, bt416.2.2.2⟩ : S29), (⟨bt422.1, bt422.2.1, bt422.2.2.1, bt422.2.2.2⟩ : S29)] : List (S29))))))
theorem pB18_ {P Q : Prop} (h : P) (g : P → Q := by intro h_; (with_reducible repeat (first | refine blk_drewN ?_ _ | refine blk_drew ?_ | refine blk_alloc ?_ _)); exact h_) : Q := g h
theorem z18_0 {Q : Prop} (g : Q := by repeat (first | (with_reducible first | exact HB.out | apply bA_ | apply bN_ | apply bD_ | refine bS_ ?_ GE413.out | refine bS_ ?_ GE414.out | refine bS_ ?_ GE415.out) | exact HB.out)) : Q := g
theorem z18_1 {Q : Prop} (g : Q := by repeat (first | (with_reducible first | exact HB.out | apply bA_ | apply bN_ | apply bD_ | refine bS_ ?_ GE413.out | refine bS_ ?_ GE414.out) | exact HB.out)) : Q := g
theorem z18_2 {Q : Prop} (g : Q := by repeat (first | (with_reducible first | exact HB.out | apply bA_ | apply bN_ | apply bD_ | refine bS_ ?_ GE413.out) | exact HB.out)) : Q := g
theorem z18_3 {Q : Prop} (g : Q := by (with_reducible repeat (first | apply Kd.S_alloc | apply Kd.S_drewN | apply Kd.S_drew)); exact HO421.out) : Q := g
theorem z18_4 {Q : Prop} (g : Q := by repeat (first | (with_reducible first | exact HB.out | apply bA_ | apply bN_ | apply bD_) | exact HB.out)) : Q := g
set_option maxHeartbeats 8000000 in
set_option maxRecDepth 100000 in
theorem impl_CondOr.calls (k : Nat) (a0_0 : Int) (a0_1 : Int) (a0_2 : Int) (A0_3 : Option Addr) (c0_3 : Nat) (l0_3 : List (S29)) (a1_0 : Int) (a1_1 : Int) (a1_2 : Int) (A1_3 : Option Addr) (c1_3 : Nat) (l1_3 : List (S29)) (r1 : Int) (r2 : Int) (r3 : Int) (r4 : List (S29)) (w : World) (hr0_3 : Kd.C k29 w A0_3 l0_3.length l0_3) (hc0_3 : l0_3.length ≤ c0_3) (hr1_3 : Kd.C k29 w A1_3 l1_3.length l1_3) (hc1_3 : l1_3.length ≤ c1_3) (h : impl_CondOr.f k a0_0 a0_1 a0_2 l0_3 a1_0 a1_1 a1_2 l1_3 = some (r1, r2, r3, r4)) :
    Calls Try.prog 18 #[.agg #[.int .i64 a0_0, .int .i64 a0_1, .int .i64 a0_2, .slice A0_3 l0_3.length c0_3], .agg #[.int .i64 a1_0, .int .i64 a1_1, .int .i64 a1_2, .slice A1_3 l1_3.length c1_3]] w fun e w' => ∃ v3_ : Value, e = .returned (.agg #[.int .i64 r1, .int .i64 r2, .int .i64 r3, v3_]) ∧ Kd.S k29 29 w' w.heap.size (fun k_ => (w.heap.size ≤ k_)) v3_ r4 ∧ Below w.heap.size w w' := by
  have hu29 := Try.underlying29
  have HR0_3 := Aside0.mk hr0_3
  have HC0_3 := Aside0.mk hc0_3
  clear hr0_3 hc0_3
  have HR1_3 := Aside0.mk hr1_3
  have HC1_3 := Aside0.mk hc1_3
  clear hr1_3 hc1_3
  have HB := Aside0.mk (Below.refl w.heap.size w)
  have H : ((impl_copyCond.f k a0_0 a0_1 a0_2 l0_3).bind fun bt416 => ((impl_copyCond.f k a1_0 a1_1 a1_2 l1_3).bind fun bt422 => (some (9, 0, 0, (([(⟨bt416.1, bt416.2.1, bt416.2.2.1, bt416.2.2.2⟩ : S29), (⟨bt422.1, bt422.2.1, bt422.2.2.1, bt422.2.2.2⟩ : S29)] : List (S29))))))) = some (r1, r2, r3, r4) := h
  clear h
  replace H := Option.bind_eq_some_iff.mp H
  obtain ⟨⟨t416, t417, t418, t419⟩, A30, H⟩ := H
  replace H : ((impl_copyCond.f k a1_0 a1_1 a1_2 l1_3).bind fun bt422 => (some (9, 0, 0, (([(⟨t416, t417, t418, t419⟩ : S29), (⟨bt422.1, bt422.2.1, bt422.2.2.1, bt422.2.2.2⟩ : S29)] : List (S29)))))) = some (r1, r2, r3, r4) := H
  have A3 := Aside0.mk A30
  clear A30
  replace H := Option.bind_eq_some_iff.mp H
  obtain ⟨⟨t422, t423, t424, t425⟩, A40, H⟩ := H
  replace H : (some (9, 0, 0, (([(⟨t416, t417, t418, t419⟩ : S29), (⟨t422, t423, t424, t425⟩ : S29)] : List (S29))))) = some (r1, r2, r3, r4) := H
  have A4 := Aside0.mk A40
  clear A40
  obtain ⟨y428, hy428⟩ : ∃ y_ : List (S29), y_ = (([(⟨t416, t417, t418, t419⟩ : S29), (⟨t422, t423, t424, t425⟩ : S29)] : List (S29))) := ⟨_, rfl⟩
  replace H : (some (9, 0, 0, y428)) = some (r1, r2, r3, r4) := by first | (rw [hy428]; with_reducible exact H) | (have H2_ := (Option.bind_some _ _).symm.trans H; rw [hy428]; with_reducible exact H2_) | (have H2_ := (Option.bind_some _ _).symm.trans H; with_reducible exact H2_) | with_reducible exact H | (rw [hy428]; exact H) | exact H
  have Ny428 := Aside0.mk hy428
  clear hy428
  simp only [Option.some.injEq, Prod.mk.injEq] at H
  obtain ⟨rfl, rfl, rfl, rfl⟩ := H
  go_enter Try.func18, Try.ntmps18
  try go_wp2_with (first | ((with_reducible refine gate_dst (N := 2) rfl ?_); refine box_event ?hg (N := 2) ?hd (cs := #[.int .i64 a0_0, .int .i64 a0_1, .int .i64 a0_2, .slice A0_3 l0_3.length c0_3]) (t := 29) ?hr ?_; (case hd => rfl); (case hg => rfl); (case hr => first | (go_simp; done) | (go_simp; rfl)); intro gb413 hg w5 hbox hb; have n0_ := Aside0.mk (below_step z18_4 hb); have n1_ := Aside0.mk (hbox); have n2_ := Aside0.mk ((by rw [hg]; exact (below_size z18_4) : w.heap.size ≤ gb413)); have n3_ := Aside0.mk ((by rw [hg]; exact (below_size z18_4) : w.heap.size ≤ gb413)); clear HB; have HB := n0_; have BK413 := n1_; have GW413 := n2_; have GE413 := n3_; clear n0_ n1_ n2_ n3_; clear hb hbox hg) | ((with_reducible refine gate_dst (N := 3) rfl ?_); refine box_event ?hg (N := 3) ?hd (cs := #[.int .i64 a1_0, .int .i64 a1_1, .int .i64 a1_2, .slice A1_3 l1_3.length c1_3]) (t := 29) ?hr ?_; (case hd => rfl); (case hg => rfl); (case hr => first | (go_simp; done) | (go_simp; rfl)); intro gb414 hg w6 hbox hb; have n0_ := Aside0.mk (blk_below (g := gb413) (o := .cells #[.int .i64 a0_0, .int .i64 a0_1, .int .i64 a0_2, .slice A0_3 l0_3.length c0_3] 29 (0, 0)) (pB18_ BK413.out) hb); have n1_ := Aside0.mk (below_step z18_2 hb); have n2_ := Aside0.mk (hbox); have n3_ := Aside0.mk ((by rw [hg]; exact (below_size z18_2) : w.heap.size ≤ gb414)); have n4_ := Aside0.mk ((by rw [hg]; exact (below_size z18_2) : w.heap.size ≤ gb414)); have n5_ := Aside0.mk ((by rw [hg]; exact Nat.ne_of_lt (blk_lt (g := gb413) (o := .cells #[.int .i64 a0_0, .int .i64 a0_1, .int .i64 a0_2, .slice A0_3 l0_3.length c0_3] 29 (0, 0)) (pB18_ BK413.out)) : gb413 ≠ gb414)); have n6_ := Aside0.mk ((by rw [hg]; exact Nat.ne_of_gt (blk_lt (g := gb413) (o := .cells #[.int .i64 a0_0, .int .i64 a0_1, .int .i64 a0_2, .slice A0_3 l0_3.length c0_3] 29 (0, 0)) (pB18_ BK413.out)) : gb414 ≠ gb413)); clear BK413; clear HB; have BK413 := n0_; have HB := n1_; have BK414 := n2_; have GW414 := n3_; have GE414 := n4_; have NB413_414 := n5_; have NB414_413 := n6_; clear n0_ n1_ n2_ n3_ n4_ n5_ n6_; clear hb hbox hg) | ((with_reducible refine gate_dst (N := 4) rfl ?_); refine box_event ?hg (N := 4) ?hd (cs := #[.int .i64 0, .int .i64 0, .int .i64 0, .slice none 0 0]) (t := 29) ?hr ?_; (case hd => rfl); (case hg => rfl); (case hr => first | (go_simp; done) | (go_simp; rfl)); intro gb415 hg w7 hbox hb; have n0_ := Aside0.mk (blk_below (g := gb413) (o := .cells #[.int .i64 a0_0, .int .i64 a0_1, .int .i64 a0_2, .slice A0_3 l0_3.length c0_3] 29 (0, 0)) (pB18_ BK413.out) hb); have n1_ := Aside0.mk (blk_below (g := gb414) (o := .cells #[.int .i64 a1_0, .int .i64 a1_1, .int .i64 a1_2, .slice A1_3 l1_3.length c1_3] 29 (0, 0)) (pB18_ BK414.out) hb); have n2_ := Aside0.mk (below_step z18_1 hb); have n3_ := Aside0.mk (hbox); have n4_ := Aside0.mk ((by rw [hg]; exact (below_size z18_1) : w.heap.size ≤ gb415)); have n5_ := Aside0.mk ((by rw [hg]; exact (below_size z18_1) : w.heap.size ≤ gb415)); have n6_ := Aside0.mk ((by rw [hg]; exact Nat.ne_of_lt (blk_lt (g := gb413) (o := .cells #[.int .i64 a0_0, .int .i64 a0_1, .int .i64 a0_2, .slice A0_3 l0_3.length c0_3] 29 (0, 0)) (pB18_ BK413.out)) : gb413 ≠ gb415)); have n7_ := Aside0.mk ((by rw [hg]; exact Nat.ne_of_gt (blk_lt (g := gb413) (o := .cells #[.int .i64 a0_0, .int .i64 a0_1, .int .i64 a0_2, .slice A0_3 l0_3.length c0_3] 29 (0, 0)) (pB18_ BK413.out)) : gb415 ≠ gb413)); have n8_ := Aside0.mk ((by rw [hg]; exact Nat.ne_of_lt (blk_lt (g := gb414) (o := .cells #[.int .i64 a1_0, .int .i64 a1_1, .int .i64 a1_2, .slice A1_3 l1_3.length c1_3] 29 (0, 0)) (pB18_ BK414.out)) : gb414 ≠ gb415)); have n9_ := Aside0.mk ((by rw [hg]; exact Nat.ne_of_gt (blk_lt (g := gb414) (o := .cells #[.int .i64 a1_0, .int .i64 a1_1, .int .i64 a1_2, .slice A1_3 l1_3.length c1_3] 29 (0, 0)) (pB18_ BK414.out)) : gb415 ≠ gb414)); clear BK413; clear BK414; clear HB; have BK413 := n0_; have BK414 := n1_; have HB := n2_; have BK415 := n3_; have GW415 := n4_; have GE415 := n5_; have NB413_415 := n6_; have NB415_413 := n7_; have NB414_415 := n8_; have NB415_414 := n9_; clear n0_ n1_ n2_ n3_ n4_ n5_ n6_ n7_ n8_ n9_; clear hb hbox hg))
  have n0_ := Aside0.mk (blk_drew BK413.out)
  have n1_ := Aside0.mk (blk_drew BK414.out)
  have n2_ := Aside0.mk (blk_drew BK415.out)
  have n3_ := Aside0.mk (bD_ HB.out)
  clear BK413
  clear BK414
  clear BK415
  clear HB
  have BK413 := n0_
  have BK414 := n1_
  have BK415 := n2_
  have HB := n3_
  clear n0_ n1_ n2_ n3_
  refine start_ (n := 7) (S := fun w' => w'.cell? ⟨gb413, 0, none⟩ = some (.int .i64 a0_0) ∧ w'.cell? ⟨gb413, 1, none⟩ = some (.int .i64 a0_1) ∧ w'.cell? ⟨gb413, 2, none⟩ = some (.int .i64 a0_2) ∧ w'.cell? ⟨gb413, 3, none⟩ = some (.slice A0_3 l0_3.length c0_3) ∧ w'.cell? ⟨gb414, 0, none⟩ = some (.int .i64 a1_0) ∧ w'.cell? ⟨gb414, 1, none⟩ = some (.int .i64 a1_1) ∧ w'.cell? ⟨gb414, 2, none⟩ = some (.int .i64 a1_2) ∧ w'.cell? ⟨gb414, 3, none⟩ = some (.slice A1_3 l1_3.length c1_3)) (ds := []) #[false, false, false, false, false, false, false] (by kernel_rfl) rfl rfl ⟨(bC_ BK413.out 0).trans rfl, (bC_ BK413.out 1).trans rfl, (bC_ BK413.out 2).trans rfl, (bC_ BK413.out 3).trans rfl, (bC_ BK414.out 0).trans rfl, (bC_ BK414.out 1).trans rfl, (bC_ BK414.out 2).trans rfl, (bC_ BK414.out 3).trans rfl⟩ (fun hHeld => ?_)
  generalize w7.drew = w8 at BK413 BK414 BK415 HB hHeld ⊢
  refine take_ (i := 0) (N := some 5) (v := ?_) (a' := ?_) #[true, false, false, false, false, false, false] rfl rfl (by kernel_rfl) (fun _ _ _ h => h) (Or.inl ⟨by rfl, ?_⟩) hHeld ?_ ?_
  rotate_left
  · rintro w' ⟨s0, s1, s2, s3, s4, s5, s6, s7⟩
    go_simp
    with_reducible rfl
  rotate_left
  · simp only [Act.put, List.setIfInBounds_toArray, List.set_cons_zero, List.set_cons_succ, i64_w, i32_w]
    rfl
  refine take_ (i := 2) (N := some 7) (v := ?_) (a' := ?_) #[true, false, true, false, false, false, false] rfl rfl (by kernel_rfl) (fun _ _ _ h => h) (Or.inl ⟨by rfl, ?_⟩) hHeld ?_ ?_
  rotate_left
  · rintro w' ⟨s0, s1, s2, s3, s4, s5, s6, s7⟩
    go_simp
    with_reducible rfl
  rotate_left
  · simp only [Act.put, List.setIfInBounds_toArray, List.set_cons_zero, List.set_cons_succ, i64_w, i32_w]
    rfl
  refine one_ (i := 1) (N := some 6) #[true, true, true, false, false, false, false] rfl rfl (by kernel_rfl) (by decide) (fun K hK => ?_)
  refine goes_ Try.func28 (by kernel_rfl) rfl #[.agg #[.int .i64 a0_0, .int .i64 a0_1, .int .i64 a0_2, .slice A0_3 l0_3.length c0_3]] (by rfl) rfl rfl (by (try simp only [List.map_toArray, List.map_cons, List.map_nil]); first | done | rfl | (simp only [List.length_drop, List.length_take]; rfl)) ?_
  with_reducible refine (impl_copyCond.calls k a0_0 a0_1 a0_2 _ _ l0_3 t416 t417 t418 t419 _ ?side1 ?side2 A3.out).mono ?_
  (case side1 => repeat (first | exact (Kd.C_below HR0_3.out HB.out) | (with_reducible refine Kd.C_alloc ?_ _) | (with_reducible refine Kd.C_drewN ?_ _) | (with_reducible refine Kd.C_drew ?_)))
  (case side2 => exact HC0_3.out)
  rintro e w9 ⟨v420, rfl, ho0, hb⟩
  refine ⟨_, rfl, ?_⟩
  have n0_ := Aside0.mk (Kd.S_lower (Kd.S_mono (ok' := fun k_ => (w.heap.size ≤ k_) ∧ k_ ≠ gb413 ∧ k_ ≠ gb414 ∧ k_ ≠ gb415) (Kd.S_bound ho0) (fun k_ hk_ => ⟨(Nat.le_trans (below_size z18_0) hk_.2.1), (Kd.freshB (g := gb413) (o := .cells #[.int .i64 a0_0, .int .i64 a0_1, .int .i64 a0_2, .slice A0_3 l0_3.length c0_3] 29 (0, 0)) (pB18_ BK413.out) k_ hk_.2.1), (Kd.freshB (g := gb414) (o := .cells #[.int .i64 a1_0, .int .i64 a1_1, .int .i64 a1_2, .slice A1_3 l1_3.length c1_3] 29 (0, 0)) (pB18_ BK414.out) k_ hk_.2.1), (Kd.freshB (g := gb415) (o := .cells #[.int .i64 0, .int .i64 0, .int .i64 0, .slice none 0 0] 29 (0, 0)) (pB18_ BK415.out) k_ hk_.2.1)⟩)) (below_size z18_0))
  have n1_ := Aside0.mk (blk_below (g := gb413) (o := .cells #[.int .i64 a0_0, .int .i64 a0_1, .int .i64 a0_2, .slice A0_3 l0_3.length c0_3] 29 (0, 0)) (pB18_ BK413.out) hb)
  have n2_ := Aside0.mk (blk_below (g := gb414) (o := .cells #[.int .i64 a1_0, .int .i64 a1_1, .int .i64 a1_2, .slice A1_3 l1_3.length c1_3] 29 (0, 0)) (pB18_ BK414.out) hb)
  have n3_ := Aside0.mk (blk_below (g := gb415) (o := .cells #[.int .i64 0, .int .i64 0, .int .i64 0, .slice none 0 0] 29 (0, 0)) (pB18_ BK415.out) hb)
  have n4_ := Aside0.mk (below_step z18_0 hb)
  clear BK413
  clear BK414
  clear BK415
  clear HB
  have HO421 := n0_
  have BK413 := n1_
  have BK414 := n2_
  have BK415 := n3_
  have HB := n4_
  clear n0_ n1_ n2_ n3_ n4_
  (try clear hb)
  (try clear hb2)
  (try clear hk)
  (try clear hi)
  (try clear ho0)
  refine hK.out _ _ ⟨(bC_ BK413.out 0).trans rfl, (bC_ BK413.out 1).trans rfl, (bC_ BK413.out 2).trans rfl, (bC_ BK413.out 3).trans rfl, (bC_ BK414.out 0).trans rfl, (bC_ BK414.out 1).trans rfl, (bC_ BK414.out 2).trans rfl, (bC_ BK414.out 3).trans rfl⟩ (fun hHeld => ?_)
  clear hK K
  refine norm_ (a' := ?_) ?_ ?_
  rotate_left
  · show Act.put _ (some 6) _ = _
    simp only [Act.put, List.setIfInBounds_toArray, List.set_cons_zero, List.set_cons_succ, i64_w, i32_w]
    rfl
  refine one_ (i := 3) (N := some 8) #[true, true, true, true, false, false, false] rfl rfl (by kernel_rfl) (by decide) (fun K hK => ?_)
  refine goes_ Try.func28 (by kernel_rfl) rfl #[.agg #[.int .i64 a1_0, .int .i64 a1_1, .int .i64 a1_2, .slice A1_3 l1_3.length c1_3]] (by rfl) rfl rfl (by (try simp only [List.map_toArray, List.map_cons, List.map_nil]); first | done | rfl | (simp only [List.length_drop, List.length_take]; rfl)) ?_
  with_reducible refine (impl_copyCond.calls k a1_0 a1_1 a1_2 _ _ l1_3 t422 t423 t424 t425 _ ?side1 ?side2 A4.out).mono ?_
  (case side1 => repeat (first | exact (Kd.C_below HR1_3.out HB.out) | (with_reducible refine Kd.C_alloc ?_ _) | (with_reducible refine Kd.C_drewN ?_ _) | (with_reducible refine Kd.C_drew ?_)))
  (case side2 => exact HC1_3.out)
  rintro e w10 ⟨v426, rfl, ho0, hb⟩
  refine ⟨_, rfl, ?_⟩
  have n0_ := Aside0.mk (Kd.S_elder' z18_3 (Kd.S_base ho0) hb)
  have n1_ := Aside0.mk (Kd.S_lower (Kd.S_mono (ok' := fun k_ => (w.heap.size ≤ k_) ∧ some k_ ≠ (v420 : Value).ownBlock ∧ k_ ≠ gb413 ∧ k_ ≠ gb414 ∧ k_ ≠ gb415) (Kd.S_bound ho0) (fun k_ hk_ => ⟨(Nat.le_trans (below_size z18_0) hk_.2.1), (Kd.fresh' (Kd.S_lt z18_3) k_ hk_.2.1), (Kd.freshB (g := gb413) (o := .cells #[.int .i64 a0_0, .int .i64 a0_1, .int .i64 a0_2, .slice A0_3 l0_3.length c0_3] 29 (0, 0)) (pB18_ BK413.out) k_ hk_.2.1), (Kd.freshB (g := gb414) (o := .cells #[.int .i64 a1_0, .int .i64 a1_1, .int .i64 a1_2, .slice A1_3 l1_3.length c1_3] 29 (0, 0)) (pB18_ BK414.out) k_ hk_.2.1), (Kd.freshB (g := gb415) (o := .cells #[.int .i64 0, .int .i64 0, .int .i64 0, .slice none 0 0] 29 (0, 0)) (pB18_ BK415.out) k_ hk_.2.1)⟩)) (below_size z18_0))
  obtain ⟨NC0, HEC0, HRC0⟩ := Go.Proofs.YthjhenhmjmpkaaaTree.S_split z18_3 (Kd.S_mono (ok' := fun k_ => (w.heap.size ≤ k_) ∧ some k_ ≠ (v420 : Value).ownBlock ∧ k_ ≠ gb413 ∧ k_ ≠ gb414 ∧ k_ ≠ gb415) (Kd.S_bound ho0) (fun k_ hk_ => ⟨(Nat.le_trans (below_size z18_0) hk_.2.1), (Kd.fresh' (Kd.S_lt z18_3) k_ hk_.2.1), (Kd.freshB (g := gb413) (o := .cells #[.int .i64 a0_0, .int .i64 a0_1, .int .i64 a0_2, .slice A0_3 l0_3.length c0_3] 29 (0, 0)) (pB18_ BK413.out) k_ hk_.2.1), (Kd.freshB (g := gb414) (o := .cells #[.int .i64 a1_0, .int .i64 a1_1, .int .i64 a1_2, .slice A1_3 l1_3.length c1_3] 29 (0, 0)) (pB18_ BK414.out) k_ hk_.2.1), (Kd.freshB (g := gb415) (o := .cells #[.int .i64 0, .int .i64 0, .int .i64 0, .slice none 0 0] 29 (0, 0)) (pB18_ BK415.out) k_ hk_.2.1)⟩)) hb (below_size z18_0)
  have n2_ := Aside0.mk (blk_below (g := gb413) (o := .cells #[.int .i64 a0_0, .int .i64 a0_1, .int .i64 a0_2, .slice A0_3 l0_3.length c0_3] 29 (0, 0)) (pB18_ BK413.out) hb)
  have n3_ := Aside0.mk (blk_below (g := gb414) (o := .cells #[.int .i64 a1_0, .int .i64 a1_1, .int .i64 a1_2, .slice A1_3 l1_3.length c1_3] 29 (0, 0)) (pB18_ BK414.out) hb)
  have n4_ := Aside0.mk (blk_below (g := gb415) (o := .cells #[.int .i64 0, .int .i64 0, .int .i64 0, .slice none 0 0] 29 (0, 0)) (pB18_ BK415.out) hb)
  have n5_ := Aside0.mk (below_step z18_0 hb)
  clear HO421
  clear BK413
  clear BK414
  clear BK415
  clear HB
  have HO421 := n0_
  have HO427 := n1_
  have BK413 := n2_
  have BK414 := n3_
  have BK415 := n4_
  have HB := n5_
  clear n0_ n1_ n2_ n3_ n4_ n5_
  (try clear hb)
  (try clear hb2)
  (try clear hk)
  (try clear hi)
  (try clear ho0)
  obtain ⟨Ao11, co11, eo11⟩ := Kd.S_slice HO421.out
  (first | subst eo11 | (injection eo11 with f1_ f2_ f3_; have f4_ := f1_.symm; have f5_ := f3_.symm; clear f1_ f2_ f3_; subst f4_; subst f5_))
  obtain ⟨Ao12, co12, eo12⟩ := Kd.S_slice HO427.out
  (first | subst eo12 | (injection eo12 with f1_ f2_ f3_; have f4_ := f1_.symm; have f5_ := f3_.symm; clear f1_ f2_ f3_; subst f4_; subst f5_))
  refine hK.out _ _ ⟨(bC_ BK413.out 0).trans rfl, (bC_ BK413.out 1).trans rfl, (bC_ BK413.out 2).trans rfl, (bC_ BK413.out 3).trans rfl, (bC_ BK414.out 0).trans rfl, (bC_ BK414.out 1).trans rfl, (bC_ BK414.out 2).trans rfl, (bC_ BK414.out 3).trans rfl⟩ (fun hHeld => ?_)
  clear hK K
  refine norm_ (a' := ?_) ?_ ?_
  rotate_left
  · show Act.put _ (some 8) _ = _
    simp only [Act.put, List.setIfInBounds_toArray, List.set_cons_zero, List.set_cons_succ, i64_w, i32_w]
    rfl
  refine one_ (i := 4) (N := some 9) #[true, true, true, true, true, false, false] rfl rfl (by kernel_rfl) (by decide) (fun K hK => ?_)
  refine Kd.S_lits_step k29 w.heap.size 29 ?hg (N := 9) ?hd (xs := ([(⟨t416, t417, t418, t419⟩ : S29), (⟨t422, t423, t424, t425⟩ : S29)] : List (S29))) (inner := [.int .i64 t416, .int .i64 t417, .int .i64 t418, .slice Ao11 t419.length co11, .int .i64 t422, .int .i64 t423, .int .i64 t424, .slice Ao12 t425.length co12]) (ok := (fun k_ => (w.heap.size ≤ k_) ∧ k_ ≠ gb413 ∧ k_ ≠ gb414 ∧ k_ ≠ gb415)) (Go.Proofs.YthjhenhmjmpkaaaTree.okj2 (fun k_ => (w.heap.size ≤ k_) ∧ k_ ≠ gb413 ∧ k_ ≠ gb414 ∧ k_ ≠ gb415) NC0) ?hr rfl ?hp (Go.Proofs.YthjhenhmjmpkaaaTree.okj2_ap _ _) (Go.Proofs.YthjhenhmjmpkaaaTree.okj2_ok _ _) ((show ∀ k_, w10.heap.size ≤ k_ → (fun k_ => (w.heap.size ≤ k_) ∧ k_ ≠ gb413 ∧ k_ ≠ gb414 ∧ k_ ≠ gb415) k_ from fun k_ hk => ⟨(Nat.le_trans (below_size z18_0) hk), Kd.freshB (g := gb413) (o := .cells #[.int .i64 a0_0, .int .i64 a0_1, .int .i64 a0_2, .slice A0_3 l0_3.length c0_3] 29 (0, 0)) (pB18_ BK413.out) k_ hk, Kd.freshB (g := gb414) (o := .cells #[.int .i64 a1_0, .int .i64 a1_1, .int .i64 a1_2, .slice A1_3 l1_3.length c1_3] 29 (0, 0)) (pB18_ BK414.out) k_ hk, Kd.freshB (g := gb415) (o := .cells #[.int .i64 0, .int .i64 0, .int .i64 0, .slice none 0 0] 29 (0, 0)) (pB18_ BK415.out) k_ hk⟩) _ (Nat.le_refl _)) (Below.refl _ _) (below_size z18_0) (by simp) ?_; (case hd => rfl); (case hg => rfl); (case hr => first | (go_simp; done) | (go_simp; rfl)); (case hp => exact Go.Proofs.YthjhenhmjmpkaaaTree.lit2 (c0 := [.int .i64 t416, .int .i64 t417, .int .i64 t418, .slice Ao11 t419.length co11]) (c1 := [.int .i64 t422, .int .i64 t423, .int .i64 t424, .slice Ao12 t425.length co12]) (k29_mkM _ _ _ (⟨t416, t417, t418, t419⟩ : S29) (Kd.S_mono (ok' := fun k_ => ((fun k_ => (w.heap.size ≤ k_) ∧ k_ ≠ gb413 ∧ k_ ≠ gb414 ∧ k_ ≠ gb415)) k_ ∧ k_ < NC0) HEC0.out (fun k_ hk_ => ⟨hk_.1, hk_.2⟩))) (k29_mkM _ _ _ (⟨t422, t423, t424, t425⟩ : S29) (Kd.S_mono (ok' := fun k_ => ((fun k_ => (w.heap.size ≤ k_) ∧ k_ ≠ gb413 ∧ k_ ≠ gb414 ∧ k_ ≠ gb415)) k_ ∧ NC0 ≤ k_) HRC0.out (fun k_ hk_ => ⟨⟨hk_.1.1, hk_.1.2.2⟩, hk_.2⟩))))
  intro v429 w13 ho14 hb hg_ hnew_
  replace hb := pw_below_grown (Below.refl _ _) none (Nat.le_refl _) hg_ (fun k hk => by cases hk)
  clear hg_ hnew_
  (first | rw [← Ny428.out] at ho14 | (simp only [Int.reduceToNat] at ho14; rw [← Ny428.out] at ho14))
  have n0_ := Aside0.mk ho14
  have n1_ := Aside0.mk (blk_below (g := gb413) (o := .cells #[.int .i64 a0_0, .int .i64 a0_1, .int .i64 a0_2, .slice A0_3 l0_3.length c0_3] 29 (0, 0)) (pB18_ BK413.out) hb)
  have n2_ := Aside0.mk (blk_below (g := gb414) (o := .cells #[.int .i64 a1_0, .int .i64 a1_1, .int .i64 a1_2, .slice A1_3 l1_3.length c1_3] 29 (0, 0)) (pB18_ BK414.out) hb)
  have n3_ := Aside0.mk (blk_below (g := gb415) (o := .cells #[.int .i64 0, .int .i64 0, .int .i64 0, .slice none 0 0] 29 (0, 0)) (pB18_ BK415.out) hb)
  have n4_ := Aside0.mk (below_step z18_0 hb)
  clear BK413
  clear BK414
  clear BK415
  clear HB
  clear HO421
  clear HO427
  have HO430 := n0_
  have BK413 := n1_
  have BK414 := n2_
  have BK415 := n3_
  have HB := n4_
  clear n0_ n1_ n2_ n3_ n4_
  clear hb ho14
  obtain ⟨Ao15, co15, eo15⟩ := Kd.S_slice HO430.out
  (first | subst eo15 | (injection eo15 with f1_ f2_ f3_; have f4_ := f1_.symm; have f5_ := f3_.symm; clear f1_ f2_ f3_; subst f4_; subst f5_))
  refine hK.out _ _ ⟨(bC_ BK413.out 0).trans rfl, (bC_ BK413.out 1).trans rfl, (bC_ BK413.out 2).trans rfl, (bC_ BK413.out 3).trans rfl, (bC_ BK414.out 0).trans rfl, (bC_ BK414.out 1).trans rfl, (bC_ BK414.out 2).trans rfl, (bC_ BK414.out 3).trans rfl⟩ (fun hHeld => ?_)
  clear hK K
  refine norm_ (a' := ?_) ?_ ?_
  rotate_left
  · show Act.put _ (some 9) _ = _
    simp only [Act.put, List.setIfInBounds_toArray, List.set_cons_zero, List.set_cons_succ, i64_w, i32_w]
    rfl
  refine pure_ (i := 5) (N := some 10) (v := ?_) (a' := ?_) #[true, true, true, true, true, true, false] rfl rfl (by kernel_rfl) (fun _ _ _ h => h) (Or.inl ⟨by rfl, ?_⟩) ?_ ?_
  rotate_left
  · intro w'
    go_simp
    with_reducible rfl
  rotate_left
  · simp only [Act.put, List.setIfInBounds_toArray, List.set_cons_zero, List.set_cons_succ, i64_w, i32_w]
    rfl
  refine one_ (i := 6) (N := none) #[true, true, true, true, true, true, true] rfl rfl (by kernel_rfl) (by decide) (fun K hK => ?_)
  have hs16 : w13.cell? ⟨gb415, 0, none⟩ = some (.int .i64 0) := (bC_ BK415.out 0).trans rfl
  have hfs16 := bF_ BK415.out 0
  have hns16_0 := NB413_415.out
  have hns16_1 := NB414_415.out
  have hms16_0 := NB415_413.out
  have hms16_1 := NB415_414.out
  have hs17 : w13.cell? ⟨gb415, 1, none⟩ = some (.int .i64 0) := (bC_ BK415.out 1).trans rfl
  have hfs17 := bF_ BK415.out 1
  have hns17_0 := NB413_415.out
  have hns17_1 := NB414_415.out
  have hms17_0 := NB415_413.out
  have hms17_1 := NB415_414.out
  have hs18 : w13.cell? ⟨gb415, 2, none⟩ = some (.int .i64 0) := (bC_ BK415.out 2).trans rfl
  have hfs18 := bF_ BK415.out 2
  have hns18_0 := NB413_415.out
  have hns18_1 := NB414_415.out
  have hms18_0 := NB415_413.out
  have hms18_1 := NB415_414.out
  have hs19 : w13.cell? ⟨gb415, 3, none⟩ = some (.slice none 0 0) := (bC_ BK415.out 3).trans rfl
  have hfs19 := bF_ BK415.out 3
  have hns19_0 := NB413_415.out
  have hns19_1 := NB414_415.out
  have hms19_0 := NB415_413.out
  have hms19_1 := NB415_414.out
  refine skip_ (w1 := ?_) (by rfl) rfl ?_ ?_
  rotate_left
  · go_simp
    rfl
  refine hK.out _ _ ⟨((cell_far (p := ⟨gb415, _, none⟩) NB413_415.out _).trans (((cell_far (p := ⟨gb415, _, none⟩) NB413_415.out _).trans (((cell_far (p := ⟨gb415, _, none⟩) NB413_415.out _).trans (((cell_far (p := ⟨gb415, _, none⟩) NB413_415.out _).trans (hHeld.1)))))))), ((cell_far (p := ⟨gb415, _, none⟩) NB413_415.out _).trans (((cell_far (p := ⟨gb415, _, none⟩) NB413_415.out _).trans (((cell_far (p := ⟨gb415, _, none⟩) NB413_415.out _).trans (((cell_far (p := ⟨gb415, _, none⟩) NB413_415.out _).trans (hHeld.2.1)))))))), ((cell_far (p := ⟨gb415, _, none⟩) NB413_415.out _).trans (((cell_far (p := ⟨gb415, _, none⟩) NB413_415.out _).trans (((cell_far (p := ⟨gb415, _, none⟩) NB413_415.out _).trans (((cell_far (p := ⟨gb415, _, none⟩) NB413_415.out _).trans (hHeld.2.2.1)))))))), ((cell_far (p := ⟨gb415, _, none⟩) NB413_415.out _).trans (((cell_far (p := ⟨gb415, _, none⟩) NB413_415.out _).trans (((cell_far (p := ⟨gb415, _, none⟩) NB413_415.out _).trans (((cell_far (p := ⟨gb415, _, none⟩) NB413_415.out _).trans (hHeld.2.2.2.1)))))))), ((cell_far (p := ⟨gb415, _, none⟩) NB414_415.out _).trans (((cell_far (p := ⟨gb415, _, none⟩) NB414_415.out _).trans (((cell_far (p := ⟨gb415, _, none⟩) NB414_415.out _).trans (((cell_far (p := ⟨gb415, _, none⟩) NB414_415.out _).trans (hHeld.2.2.2.2.1)))))))), ((cell_far (p := ⟨gb415, _, none⟩) NB414_415.out _).trans (((cell_far (p := ⟨gb415, _, none⟩) NB414_415.out _).trans (((cell_far (p := ⟨gb415, _, none⟩) NB414_415.out _).trans (((cell_far (p := ⟨gb415, _, none⟩) NB414_415.out _).trans (hHeld.2.2.2.2.2.1)))))))), ((cell_far (p := ⟨gb415, _, none⟩) NB414_415.out _).trans (((cell_far (p := ⟨gb415, _, none⟩) NB414_415.out _).trans (((cell_far (p := ⟨gb415, _, none⟩) NB414_415.out _).trans (((cell_far (p := ⟨gb415, _, none⟩) NB414_415.out _).trans (hHeld.2.2.2.2.2.2.1)))))))), ((cell_far (p := ⟨gb415, _, none⟩) NB414_415.out _).trans (((cell_far (p := ⟨gb415, _, none⟩) NB414_415.out _).trans (((cell_far (p := ⟨gb415, _, none⟩) NB414_415.out _).trans (((cell_far (p := ⟨gb415, _, none⟩) NB414_415.out _).trans (hHeld.2.2.2.2.2.2.2))))))))⟩ (fun hHeld => ?_)
  clear hK K
  refine done_ (by kernel_rfl) ?_
  try go_wp2
  refine bodyPost_ret (results_cell_row rfl _ _ gb415 29 #[.int .i64 9, .int .i64 0, .int .i64 0, .slice Ao15 y428.length co15] (0, 0) _ rfl (by (with_reducible repeat (first | refine blk_drewN ?_ _ | refine blk_drew ?_ | refine blk_alloc ?_ _)); refine blk_put (cs := #[.int .i64 9, .int .i64 0, .int .i64 0, .slice none 0 0]) ?_ 3 _ rfl; (with_reducible repeat (first | refine blk_drewN ?_ _ | refine blk_drew ?_ | refine blk_alloc ?_ _)); refine blk_put (cs := #[.int .i64 9, .int .i64 0, .int .i64 0, .slice none 0 0]) ?_ 2 _ rfl; (with_reducible repeat (first | refine blk_drewN ?_ _ | refine blk_drew ?_ | refine blk_alloc ?_ _)); refine blk_put (cs := #[.int .i64 9, .int .i64 0, .int .i64 0, .slice none 0 0]) ?_ 1 _ rfl; (with_reducible repeat (first | refine blk_drewN ?_ _ | refine blk_drew ?_ | refine blk_alloc ?_ _)); refine blk_put (cs := #[.int .i64 0, .int .i64 0, .int .i64 0, .slice none 0 0]) ?_ 0 _ rfl; (with_reducible repeat (first | refine blk_drewN ?_ _ | refine blk_drew ?_ | refine blk_alloc ?_ _)); exact BK415.out) Try.underlying29 rfl (by kernel_rfl)) rfl ?_
  exact ⟨_, by first | rfl | (simp [errW_none, errW_some] <;> rfl) | (simp [*, errW_none, errW_some] <;> rfl), by (with_reducible repeat (first | apply Kd.S_alloc | apply Kd.S_drewN | apply Kd.S_drew)); exact Kd.S_mono (Kd.S_far (p := ⟨gb415, 3, none⟩) (Kd.S_far (p := ⟨gb415, 2, none⟩) (Kd.S_far (p := ⟨gb415, 1, none⟩) (Kd.S_far (p := ⟨gb415, 0, none⟩) (Kd.S_mono HO430.out (fun k_ hk => (⟨hk, hk.2.2.2⟩ : _ ∧ k_ ≠ gb415))) (fun _ hk => hk.2) (.int .i64 9)) (fun _ hk => hk.2) (.int .i64 0)) (fun _ hk => hk.2) (.int .i64 0)) (fun _ hk => hk.2) (.slice Ao15 y428.length co15)) (fun _ hk => hk.1.1), by repeat (first | (with_reducible first | exact HB.out | apply bA_ | apply bN_ | apply bD_ | refine bS_ ?_ GE413.out | refine bS_ ?_ GE414.out | refine bS_ ?_ GE415.out) | exact HB.out)⟩

/-! ### impl_CondNot: function 19 -/
def impl_CondNot.f (k : Nat) (a0_0 : Int) (a0_1 : Int) (a0_2 : Int) (l0_3 : List (S29)) : Option (Int × Int × Int × (List (S29))) := (impl_copyCond.f k a0_0 a0_1 a0_2 l0_3).bind fun bt433 => (some (7, 0, 0, (([(⟨bt433.1, bt433.2.1, bt433.2.2.1, bt433.2.2.2⟩ : S29)] : List (S29)))))
theorem pB19_ {P Q : Prop} (h : P) (g : P → Q := by intro h_; (with_reducible repeat (first | refine blk_drewN ?_ _ | refine blk_drew ?_ | refine blk_alloc ?_ _)); exact h_) : Q := g h
theorem z19_0 {Q : Prop} (g : Q := by repeat (first | (with_reducible first | exact HB.out | apply bA_ | apply bN_ | apply bD_ | refine bS_ ?_ GE431.out | refine bS_ ?_ GE432.out) | exact HB.out)) : Q := g
theorem z19_1 {Q : Prop} (g : Q := by repeat (first | (with_reducible first | exact HB.out | apply bA_ | apply bN_ | apply bD_ | refine bS_ ?_ GE431.out) | exact HB.out)) : Q := g
theorem z19_2 {Q : Prop} (g : Q := by repeat (first | (with_reducible first | exact HB.out | apply bA_ | apply bN_ | apply bD_) | exact HB.out)) : Q := g
set_option maxHeartbeats 8000000 in
set_option maxRecDepth 100000 in
theorem impl_CondNot.calls (k : Nat) (a0_0 : Int) (a0_1 : Int) (a0_2 : Int) (A0_3 : Option Addr) (c0_3 : Nat) (l0_3 : List (S29)) (r1 : Int) (r2 : Int) (r3 : Int) (r4 : List (S29)) (w : World) (hr0_3 : Kd.C k29 w A0_3 l0_3.length l0_3) (hc0_3 : l0_3.length ≤ c0_3) (h : impl_CondNot.f k a0_0 a0_1 a0_2 l0_3 = some (r1, r2, r3, r4)) :
    Calls Try.prog 19 #[.agg #[.int .i64 a0_0, .int .i64 a0_1, .int .i64 a0_2, .slice A0_3 l0_3.length c0_3]] w fun e w' => ∃ v3_ : Value, e = .returned (.agg #[.int .i64 r1, .int .i64 r2, .int .i64 r3, v3_]) ∧ Kd.S k29 29 w' w.heap.size (fun k_ => (w.heap.size ≤ k_)) v3_ r4 ∧ Below w.heap.size w w' := by
  have hu29 := Try.underlying29
  have HR0_3 := Aside0.mk hr0_3
  have HC0_3 := Aside0.mk hc0_3
  clear hr0_3 hc0_3
  have HB := Aside0.mk (Below.refl w.heap.size w)
  have H : ((impl_copyCond.f k a0_0 a0_1 a0_2 l0_3).bind fun bt433 => (some (7, 0, 0, (([(⟨bt433.1, bt433.2.1, bt433.2.2.1, bt433.2.2.2⟩ : S29)] : List (S29)))))) = some (r1, r2, r3, r4) := h
  clear h
  replace H := Option.bind_eq_some_iff.mp H
  obtain ⟨⟨t433, t434, t435, t436⟩, A20, H⟩ := H
  replace H : (some (7, 0, 0, (([(⟨t433, t434, t435, t436⟩ : S29)] : List (S29))))) = some (r1, r2, r3, r4) := H
  have A2 := Aside0.mk A20
  clear A20
  obtain ⟨y439, hy439⟩ : ∃ y_ : List (S29), y_ = (([(⟨t433, t434, t435, t436⟩ : S29)] : List (S29))) := ⟨_, rfl⟩
  replace H : (some (7, 0, 0, y439)) = some (r1, r2, r3, r4) := by first | (rw [hy439]; with_reducible exact H) | (have H2_ := (Option.bind_some _ _).symm.trans H; rw [hy439]; with_reducible exact H2_) | (have H2_ := (Option.bind_some _ _).symm.trans H; with_reducible exact H2_) | with_reducible exact H | (rw [hy439]; exact H) | exact H
  have Ny439 := Aside0.mk hy439
  clear hy439
  simp only [Option.some.injEq, Prod.mk.injEq] at H
  obtain ⟨rfl, rfl, rfl, rfl⟩ := H
  go_enter Try.func19, Try.ntmps19
  go_wp2_with (first | ((with_reducible refine gate_dst (N := 1) rfl ?_); refine box_event ?hg (N := 1) ?hd (cs := #[.int .i64 a0_0, .int .i64 a0_1, .int .i64 a0_2, .slice A0_3 l0_3.length c0_3]) (t := 29) ?hr ?_; (case hd => rfl); (case hg => rfl); (case hr => first | (go_simp; done) | (go_simp; rfl)); intro gb431 hg w3 hbox hb; have n0_ := Aside0.mk (below_step z19_2 hb); have n1_ := Aside0.mk (hbox); have n2_ := Aside0.mk ((by rw [hg]; exact (below_size z19_2) : w.heap.size ≤ gb431)); have n3_ := Aside0.mk ((by rw [hg]; exact (below_size z19_2) : w.heap.size ≤ gb431)); clear HB; have HB := n0_; have BK431 := n1_; have GW431 := n2_; have GE431 := n3_; clear n0_ n1_ n2_ n3_; clear hb hbox hg) | ((with_reducible refine gate_dst (N := 2) rfl ?_); refine box_event ?hg (N := 2) ?hd (cs := #[.int .i64 0, .int .i64 0, .int .i64 0, .slice none 0 0]) (t := 29) ?hr ?_; (case hd => rfl); (case hg => rfl); (case hr => first | (go_simp; done) | (go_simp; rfl)); intro gb432 hg w4 hbox hb; have n0_ := Aside0.mk (blk_below (g := gb431) (o := .cells #[.int .i64 a0_0, .int .i64 a0_1, .int .i64 a0_2, .slice A0_3 l0_3.length c0_3] 29 (0, 0)) (pB19_ BK431.out) hb); have n1_ := Aside0.mk (below_step z19_1 hb); have n2_ := Aside0.mk (hbox); have n3_ := Aside0.mk ((by rw [hg]; exact (below_size z19_1) : w.heap.size ≤ gb432)); have n4_ := Aside0.mk ((by rw [hg]; exact (below_size z19_1) : w.heap.size ≤ gb432)); have n5_ := Aside0.mk ((by rw [hg]; exact Nat.ne_of_lt (blk_lt (g := gb431) (o := .cells #[.int .i64 a0_0, .int .i64 a0_1, .int .i64 a0_2, .slice A0_3 l0_3.length c0_3] 29 (0, 0)) (pB19_ BK431.out)) : gb431 ≠ gb432)); have n6_ := Aside0.mk ((by rw [hg]; exact Nat.ne_of_gt (blk_lt (g := gb431) (o := .cells #[.int .i64 a0_0, .int .i64 a0_1, .int .i64 a0_2, .slice A0_3 l0_3.length c0_3] 29 (0, 0)) (pB19_ BK431.out)) : gb432 ≠ gb431)); clear BK431; clear HB; have BK431 := n0_; have HB := n1_; have BK432 := n2_; have GW432 := n3_; have GE432 := n4_; have NB431_432 := n5_; have NB432_431 := n6_; clear n0_ n1_ n2_ n3_ n4_ n5_ n6_; clear hb hbox hg; have hnb5 := NB431_432.out; have hnc5 := NB432_431.out; have hcz6_0 : w4.cell? ⟨gb431, 0, none⟩ = some (.int .i64 a0_0) := (bC_ BK431.out 0).trans rfl; have hcz6_1 : w4.cell? ⟨gb431, 1, none⟩ = some (.int .i64 a0_1) := (bC_ BK431.out 1).trans rfl; have hcz6_2 : w4.cell? ⟨gb431, 2, none⟩ = some (.int .i64 a0_2) := (bC_ BK431.out 2).trans rfl; have hcz6_3 : w4.cell? ⟨gb431, 3, none⟩ = some (.slice A0_3 l0_3.length c0_3) := (bC_ BK431.out 3).trans rfl; have hfz6_0 := bF_ BK431.out 0; have hfz6_1 := bF_ BK431.out 1; have hfz6_2 := bF_ BK431.out 2; have hfz6_3 := bF_ BK431.out 3) | ((with_reducible refine gate_callee (f := 28) rfl ?_); refine goesL_ (some 4) rfl rfl Try.func28 (by kernel_rfl) rfl #[.agg #[.int .i64 a0_0, .int .i64 a0_1, .int .i64 a0_2, .slice A0_3 l0_3.length c0_3]] rfl (by (try simp only [List.map_toArray, List.map_cons, List.map_nil]); first | done | rfl | (simp only [List.length_drop, List.length_take]; rfl)) ?_; (with_reducible refine (impl_copyCond.calls k a0_0 a0_1 a0_2 _ _ l0_3 t433 t434 t435 t436 _ ?side1 ?side2 A2.out).mono ?_); (case side1 => repeat (first | exact (Kd.C_below HR0_3.out HB.out) | (with_reducible refine Kd.C_alloc ?_ _) | (with_reducible refine Kd.C_drewN ?_ _) | (with_reducible refine Kd.C_drew ?_))); (case side2 => exact HC0_3.out); rintro e w7 ⟨v437, rfl, ho0, hb⟩; refine ⟨_, rfl, ?_⟩; have n0_ := Aside0.mk (Kd.S_lower (Kd.S_mono (ok' := fun k_ => (w.heap.size ≤ k_) ∧ k_ ≠ gb431 ∧ k_ ≠ gb432) (Kd.S_bound ho0) (fun k_ hk_ => ⟨(Nat.le_trans (below_size z19_0) hk_.2.1), (Kd.freshB (g := gb431) (o := .cells #[.int .i64 a0_0, .int .i64 a0_1, .int .i64 a0_2, .slice A0_3 l0_3.length c0_3] 29 (0, 0)) (pB19_ BK431.out) k_ hk_.2.1), (Kd.freshB (g := gb432) (o := .cells #[.int .i64 0, .int .i64 0, .int .i64 0, .slice none 0 0] 29 (0, 0)) (pB19_ BK432.out) k_ hk_.2.1)⟩)) (below_size z19_0)); have n1_ := Aside0.mk (blk_below (g := gb431) (o := .cells #[.int .i64 a0_0, .int .i64 a0_1, .int .i64 a0_2, .slice A0_3 l0_3.length c0_3] 29 (0, 0)) (pB19_ BK431.out) hb); have n2_ := Aside0.mk (blk_below (g := gb432) (o := .cells #[.int .i64 0, .int .i64 0, .int .i64 0, .slice none 0 0] 29 (0, 0)) (pB19_ BK432.out) hb); have n3_ := Aside0.mk (below_step z19_0 hb); clear BK431; clear BK432; clear HB; have HO438 := n0_; have BK431 := n1_; have BK432 := n2_; have HB := n3_; clear n0_ n1_ n2_ n3_; (try clear hb); (try clear hb2); (try clear hk); (try clear hi); (try clear ho0); obtain ⟨Ao8, co8, eo8⟩ := Kd.S_slice HO438.out; subst eo8) | ((with_reducible refine gate_dst (N := 5) rfl ?_); refine Kd.S_lits k29 w.heap.size 29 ?hg (N := 5) ?hd (xs := ([(⟨t433, t434, t435, t436⟩ : S29)] : List (S29))) (inner := [.int .i64 t433, .int .i64 t434, .int .i64 t435, .slice Ao8 t436.length co8]) (ok := (fun k_ => (w.heap.size ≤ k_) ∧ k_ ≠ gb431 ∧ k_ ≠ gb432)) (Go.Proofs.YthjhenhmjmpkaaaTree.okj1 (fun k_ => (w.heap.size ≤ k_) ∧ k_ ≠ gb431 ∧ k_ ≠ gb432)) ?hr rfl ?hp (Go.Proofs.YthjhenhmjmpkaaaTree.okj1_ap _) (Go.Proofs.YthjhenhmjmpkaaaTree.okj1_ok _) ((show ∀ k_, w7.heap.size ≤ k_ → (fun k_ => (w.heap.size ≤ k_) ∧ k_ ≠ gb431 ∧ k_ ≠ gb432) k_ from fun k_ hk => ⟨(Nat.le_trans (below_size z19_0) hk), Kd.freshB (g := gb431) (o := .cells #[.int .i64 a0_0, .int .i64 a0_1, .int .i64 a0_2, .slice A0_3 l0_3.length c0_3] 29 (0, 0)) (pB19_ BK431.out) k_ hk, Kd.freshB (g := gb432) (o := .cells #[.int .i64 0, .int .i64 0, .int .i64 0, .slice none 0 0] 29 (0, 0)) (pB19_ BK432.out) k_ hk⟩) _ (Nat.le_refl _)) (Below.refl _ _) (below_size z19_0) (by simp) ?_; (case hd => rfl); (case hg => rfl); (case hr => first | (go_simp; done) | (go_simp; rfl)); (case hp => exact Go.Proofs.YthjhenhmjmpkaaaTree.lit1 (c := [.int .i64 t433, .int .i64 t434, .int .i64 t435, .slice Ao8 t436.length co8]) (k29_mkM _ _ _ (⟨t433, t434, t435, t436⟩ : S29) (Kd.S_mono (ok' := (fun k_ => (w.heap.size ≤ k_) ∧ k_ ≠ gb431 ∧ k_ ≠ gb432)) HO438.out (fun k_ hk => ⟨hk.1, ⟨hk.2.1, hk.2.2⟩⟩)))); intro v440 w9 ho10 hb hg_ hnew_; replace hb := pw_below_grown (Below.refl _ _) none (Nat.le_refl _) hg_ (fun k hk => by cases hk); clear hg_ hnew_; (first | rw [← Ny439.out] at ho10 | (simp only [Int.reduceToNat] at ho10; rw [← Ny439.out] at ho10)); have n0_ := Aside0.mk ho10; have n1_ := Aside0.mk (blk_below (g := gb431) (o := .cells #[.int .i64 a0_0, .int .i64 a0_1, .int .i64 a0_2, .slice A0_3 l0_3.length c0_3] 29 (0, 0)) (pB19_ BK431.out) hb); have n2_ := Aside0.mk (blk_below (g := gb432) (o := .cells #[.int .i64 0, .int .i64 0, .int .i64 0, .slice none 0 0] 29 (0, 0)) (pB19_ BK432.out) hb); have n3_ := Aside0.mk (below_step z19_0 hb); clear BK431; clear BK432; clear HB; clear HO438; have HO441 := n0_; have BK431 := n1_; have BK432 := n2_; have HB := n3_; clear n0_ n1_ n2_ n3_; clear hb ho10; obtain ⟨Ao11, co11, eo11⟩ := Kd.S_slice HO441.out; subst eo11; have hcz12_0 : w9.cell? ⟨gb432, 0, none⟩ = some (.int .i64 0) := (bC_ BK432.out 0).trans rfl; have hcz12_1 : w9.cell? ⟨gb432, 1, none⟩ = some (.int .i64 0) := (bC_ BK432.out 1).trans rfl; have hcz12_2 : w9.cell? ⟨gb432, 2, none⟩ = some (.int .i64 0) := (bC_ BK432.out 2).trans rfl; have hcz12_3 : w9.cell? ⟨gb432, 3, none⟩ = some (.slice none 0 0) := (bC_ BK432.out 3).trans rfl; have hfz12_0 := bF_ BK432.out 0; have hfz12_1 := bF_ BK432.out 1; have hfz12_2 := bF_ BK432.out 2; have hfz12_3 := bF_ BK432.out 3))
  refine bodyPost_ret (results_cell_row rfl _ _ gb432 29 #[.int .i64 7, .int .i64 0, .int .i64 0, .slice Ao11 y439.length co11] (0, 0) _ rfl (by (with_reducible repeat (first | refine blk_drewN ?_ _ | refine blk_drew ?_ | refine blk_alloc ?_ _)); refine blk_put (cs := #[.int .i64 7, .int .i64 0, .int .i64 0, .slice none 0 0]) ?_ 3 _ rfl; (with_reducible repeat (first | refine blk_drewN ?_ _ | refine blk_drew ?_ | refine blk_alloc ?_ _)); refine blk_put (cs := #[.int .i64 7, .int .i64 0, .int .i64 0, .slice none 0 0]) ?_ 2 _ rfl; (with_reducible repeat (first | refine blk_drewN ?_ _ | refine blk_drew ?_ | refine blk_alloc ?_ _)); refine blk_put (cs := #[.int .i64 7, .int .i64 0, .int .i64 0, .slice none 0 0]) ?_ 1 _ rfl; (with_reducible repeat (first | refine blk_drewN ?_ _ | refine blk_drew ?_ | refine blk_alloc ?_ _)); refine blk_put (cs := #[.int .i64 0, .int .i64 0, .int .i64 0, .slice none 0 0]) ?_ 0 _ rfl; (with_reducible repeat (first | refine blk_drewN ?_ _ | refine blk_drew ?_ | refine blk_alloc ?_ _)); exact BK432.out) Try.underlying29 rfl (by kernel_rfl)) rfl ?_
  exact ⟨_, by first | rfl | (simp [errW_none, errW_some] <;> rfl) | (simp [*, errW_none, errW_some] <;> rfl), by (with_reducible repeat (first | apply Kd.S_alloc | apply Kd.S_drewN | apply Kd.S_drew)); exact Kd.S_mono (Kd.S_far (p := ⟨gb432, 3, none⟩) (Kd.S_far (p := ⟨gb432, 2, none⟩) (Kd.S_far (p := ⟨gb432, 1, none⟩) (Kd.S_far (p := ⟨gb432, 0, none⟩) (Kd.S_mono HO441.out (fun k_ hk => (⟨hk, hk.2.2⟩ : _ ∧ k_ ≠ gb432))) (fun _ hk => hk.2) (.int .i64 7)) (fun _ hk => hk.2) (.int .i64 0)) (fun _ hk => hk.2) (.int .i64 0)) (fun _ hk => hk.2) (.slice Ao11 y439.length co11)) (fun _ hk => hk.1.1), by repeat (first | (with_reducible first | exact HB.out | apply bA_ | apply bN_ | apply bD_ | refine bS_ ?_ GE431.out | refine bS_ ?_ GE432.out) | exact HB.out)⟩




/-! ### impl_ArityOf: function 22 -/
def impl_ArityOf.j0 : Nat → Int → Bool → Option (Int)
  | 0, _, _ => none
  | k + 1, x0, x6 => if x6 = true then (some 2) else ((impl_InRange.f x0 1 6).bind fun t447 => (if t447 = true then (some 0) else (some (-1))))
def impl_ArityOf.f (k : Nat) (a0 : Int) : Option (Int) := if a0 = 7 then (some 1) else (if a0 = 8 then (impl_ArityOf.j0 k a0 true) else (impl_ArityOf.j0 k a0 (a0 == 9)))
set_option maxHeartbeats 8000000 in
set_option maxRecDepth 100000 in
theorem impl_ArityOf.calls (k : Nat) (a0 : Int) (r : Int) (w : World) (h : impl_ArityOf.f k a0 = some r) :
    Calls Try.prog 22 #[.int .i64 a0] w fun e w' => e = .returned (.int .i64 r) ∧ Drawn0 w w' := by
  have H : (if a0 = 7 then (some 1) else (if a0 = 8 then (impl_ArityOf.j0 k a0 true) else (impl_ArityOf.j0 k a0 (a0 == 9)))) = some r := h
  clear h
  by_cases c2 : a0 = 7
  · rw [if_pos c2] at H
    have c2b0 : (a0 == 7) = true := beq_iff_eq.mpr c2
    have c2b1 : (a0 != 7) = false := bne_eq_false_iff_eq.mpr c2
    clear c2
    obtain rfl := Option.some.inj H
    go_enter Try.func22, Try.ntmps22
    go_wp2
    go_ret
    exact ⟨by first | rfl | (simp; done) | (simp [*]; done), by repeat (first | exact Drawn0.refl _ | apply Drawn0.step)⟩
  · rw [if_neg c2] at H
    have c2b0 : (a0 == 7) = false := beq_eq_false_iff_ne.mpr c2
    have c2b1 : (a0 != 7) = true := bne_iff_ne.mpr c2
    have HC3 := Aside0.mk H
    clear H
    go_enter Try.func22, Try.ntmps22
    go_upto_region 3 with (fail)
    go_cut [6] (fun v6 wc => ∃ (kq : Nat) (x6_2 : Bool), v6 = .bool x6_2 ∧ Aside0 (impl_ArityOf.j0 kq a0 x6_2 = some r) ∧ Aside0 (kq ≤ k) ∧ Drawn0 w wc)
    case first =>
      have H := HC3.out
      clear HC3
      by_cases c4 : a0 = 8
      · rw [if_pos c4] at H
        have c4b0 : (a0 == 8) = true := beq_iff_eq.mpr c4
        have c4b1 : (a0 != 8) = false := bne_eq_false_iff_eq.mpr c4
        clear c4
        (first | rw [c4b0] | (simp only [i64_w, i32_w]; rw [c4b0]) | skip)
        have H' := Aside0.mk H
        clear H
        go_wp2
        go_meet
        case rel => exact ⟨_, (true), (by first | rfl | (simp; done) | (simp [*]; done)), H', ⟨by first | omega | exact Nat.le_refl _⟩, by repeat (first | exact Drawn0.refl _ | apply Drawn0.step)⟩
      · rw [if_neg c4] at H
        have c4b0 : (a0 == 8) = false := beq_eq_false_iff_ne.mpr c4
        have c4b1 : (a0 != 8) = true := bne_iff_ne.mpr c4
        (first | rw [c4b0] | (simp only [i64_w, i32_w]; rw [c4b0]) | skip)
        have H' := Aside0.mk H
        clear H
        go_wp2
        go_meet
        case rel => exact ⟨_, ((a0 == 9)), (by first | rfl | (simp; done) | (simp [*]; done)), H', ⟨by first | omega | exact Nat.le_refl _⟩, by repeat (first | exact Drawn0.refl _ | apply Drawn0.step)⟩
    case rest =>
      clear HC3
      try clear c2
      try clear c2b0
      try clear c2b1
      try clear p2
      try clear c4
      try clear c4b0
      try clear c4b1
      obtain ⟨kq, x6_2, rfl, HA, HJ2, ⟨mc2, rfl⟩⟩ := hcut
      cases kq with
      | zero => exact absurd HA.out (by simp [impl_ArityOf.j0])
      | succ kj2 =>
        have H := HA.out
        clear HA
        simp only [impl_ArityOf.j0] at H
        by_cases c5 : x6_2 = true
        · subst c5
          have H1 : (some 2) = some r := by rw [if_pos rfl] at H; exact H
          clear H
          have H := H1
          clear H1
          obtain rfl := Option.some.inj H
          go_wp2
          go_ret
          exact ⟨by first | rfl | (simp; done) | (simp [*]; done), by repeat (first | exact Drawn0.refl _ | apply Drawn0.step)⟩
        · replace c5 := Bool.eq_false_iff.mpr c5
          subst c5
          have H1 : ((impl_InRange.f a0 1 6).bind fun t447 => (if t447 = true then (some 0) else (some (-1)))) = some r := by rw [if_neg (show ¬ (false = true) by decide)] at H; exact H
          clear H
          have H := H1
          clear H1
          replace H := Option.bind_eq_some_iff.mp H
          obtain ⟨t447, A60, H⟩ := H
          replace H : (if t447 = true then (some 0) else (some (-1))) = some r := H
          have A6 := Aside0.mk A60
          clear A60
          by_cases c7 : t447 = true
          · subst c7
            have H1 : (some 0) = some r := by rw [if_pos rfl] at H; exact H
            clear H
            have H := H1
            clear H1
            obtain rfl := Option.some.inj H
            go_wp2_with (first | ((with_reducible refine gate_callee (f := 31) rfl ?_); refine goesL_ (some 15) rfl rfl Try.func31 (by kernel_rfl) rfl #[.int .i64 a0, .int .i64 1, .int .i64 6] rfl (by (try simp only [List.map_toArray, List.map_cons, List.map_nil]); first | done | rfl | (simp only [List.length_drop, List.length_take]; rfl)) ?_; (with_reducible refine (impl_InRange.calls a0 1 6 true _ A6.out).mono ?_); rintro e w' ⟨rfl, ⟨nd, rfl⟩⟩; refine ⟨_, rfl, ?_⟩))
            go_ret
            exact ⟨by first | rfl | (simp; done) | (simp [*]; done), by repeat (first | exact Drawn0.refl _ | apply Drawn0.step)⟩
          · replace c7 := Bool.eq_false_iff.mpr c7
            subst c7
            have H1 : (some (-1)) = some r := by rw [if_neg (show ¬ (false = true) by decide)] at H; exact H
            clear H
            have H := H1
            clear H1
            obtain rfl := Option.some.inj H
            go_wp2_with (first | ((with_reducible refine gate_callee (f := 31) rfl ?_); refine goesL_ (some 15) rfl rfl Try.func31 (by kernel_rfl) rfl #[.int .i64 a0, .int .i64 1, .int .i64 6] rfl (by (try simp only [List.map_toArray, List.map_cons, List.map_nil]); first | done | rfl | (simp only [List.length_drop, List.length_take]; rfl)) ?_; (with_reducible refine (impl_InRange.calls a0 1 6 false _ A6.out).mono ?_); rintro e w' ⟨rfl, ⟨nd, rfl⟩⟩; refine ⟨_, rfl, ?_⟩))
            go_ret
            exact ⟨by first | rfl | (simp; done) | (simp [*]; done), by repeat (first | exact Drawn0.refl _ | apply Drawn0.step)⟩

end Go.Proofs.Ythjhenhmjmpkaaa.XFnConditions
