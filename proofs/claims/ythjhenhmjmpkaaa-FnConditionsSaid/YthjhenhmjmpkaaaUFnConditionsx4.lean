/- Written by this session's own program (wip/xprint, which runs over the kit's print): what the functions that the law reaches come to, each proved; and the law's row. Conditions: none. -/
import Derived.Test.YthjhenhmjmpkaaaUFnConditionsx0
import Derived.Test.YthjhenhmjmpkaaaUFnConditionsx2
import Derived.Test.YthjhenhmjmpkaaaUFnConditionsx3
namespace Go.Proofs.Ythjhenhmjmpkaaa.XFnConditions
open Go.RowKit Go.Proofs.YthjhenhmjmpkaaaW.PrintWords Go.Proofs.YthjhenhmjmpkaaaW.PrintLast Go.Proofs.YthjhenhmjmpkaaaW.PrintMore
attribute [local go_sem] max2_int min2_int max_two min_two max_three min_three max_four min_four   -- for this text's walks alone
set_option linter.unusedVariables false
set_option linter.unusedSimpArgs false

/-! ### spec_CondOr: function 49 -/
def spec_CondOr.f (k : Nat) (a0_0 : Int) (a0_1 : Int) (a0_2 : Int) (l0_3 : List (S29)) (a1_0 : Int) (a1_1 : Int) (a1_2 : Int) (l1_3 : List (S29)) : Option (Int × Int × Int × (List (S29))) := (spec_l15Copy.f k a0_0 a0_1 a0_2 l0_3).bind fun bt216 => ((spec_l15Copy.f k a1_0 a1_1 a1_2 l1_3).bind fun bt222 => (some (9, 0, 0, (([(⟨bt216.1, bt216.2.1, bt216.2.2.1, bt216.2.2.2⟩ : S29), (⟨bt222.1, bt222.2.1, bt222.2.2.1, bt222.2.2.2⟩ : S29)] : List (S29))))))
theorem pB49_ {P Q : Prop} (h : P) (g : P → Q := by intro h_; (with_reducible repeat (first | refine blk_drewN ?_ _ | refine blk_drew ?_ | refine blk_alloc ?_ _)); exact h_) : Q := g h
theorem z49_0 {Q : Prop} (g : Q := by repeat (first | (with_reducible first | exact HB.out | apply bA_ | apply bN_ | apply bD_ | refine bS_ ?_ GE213.out | refine bS_ ?_ GE214.out | refine bS_ ?_ GE215.out) | exact HB.out)) : Q := g
theorem z49_1 {Q : Prop} (g : Q := by repeat (first | (with_reducible first | exact HB.out | apply bA_ | apply bN_ | apply bD_ | refine bS_ ?_ GE213.out | refine bS_ ?_ GE214.out) | exact HB.out)) : Q := g
theorem z49_2 {Q : Prop} (g : Q := by repeat (first | (with_reducible first | exact HB.out | apply bA_ | apply bN_ | apply bD_ | refine bS_ ?_ GE213.out) | exact HB.out)) : Q := g
theorem z49_3 {Q : Prop} (g : Q := by (with_reducible repeat (first | apply Kd.S_alloc | apply Kd.S_drewN | apply Kd.S_drew)); exact HO221.out) : Q := g
theorem z49_4 {Q : Prop} (g : Q := by repeat (first | (with_reducible first | exact HB.out | apply bA_ | apply bN_ | apply bD_) | exact HB.out)) : Q := g
set_option maxHeartbeats 8000000 in
set_option maxRecDepth 100000 in
theorem spec_CondOr.calls (k : Nat) (a0_0 : Int) (a0_1 : Int) (a0_2 : Int) (A0_3 : Option Addr) (c0_3 : Nat) (l0_3 : List (S29)) (a1_0 : Int) (a1_1 : Int) (a1_2 : Int) (A1_3 : Option Addr) (c1_3 : Nat) (l1_3 : List (S29)) (r1 : Int) (r2 : Int) (r3 : Int) (r4 : List (S29)) (w : World) (hr0_3 : Kd.C k29 w A0_3 l0_3.length l0_3) (hc0_3 : l0_3.length ≤ c0_3) (hr1_3 : Kd.C k29 w A1_3 l1_3.length l1_3) (hc1_3 : l1_3.length ≤ c1_3) (h : spec_CondOr.f k a0_0 a0_1 a0_2 l0_3 a1_0 a1_1 a1_2 l1_3 = some (r1, r2, r3, r4)) :
    Calls Try.prog 49 #[.agg #[.int .i64 a0_0, .int .i64 a0_1, .int .i64 a0_2, .slice A0_3 l0_3.length c0_3], .agg #[.int .i64 a1_0, .int .i64 a1_1, .int .i64 a1_2, .slice A1_3 l1_3.length c1_3]] w fun e w' => ∃ v3_ : Value, e = .returned (.agg #[.int .i64 r1, .int .i64 r2, .int .i64 r3, v3_]) ∧ Kd.S k29 29 w' w.heap.size (fun k_ => (w.heap.size ≤ k_)) v3_ r4 ∧ Below w.heap.size w w' := by
  have hu29 := Try.underlying29
  have HR0_3 := Aside0.mk hr0_3
  have HC0_3 := Aside0.mk hc0_3
  clear hr0_3 hc0_3
  have HR1_3 := Aside0.mk hr1_3
  have HC1_3 := Aside0.mk hc1_3
  clear hr1_3 hc1_3
  have HB := Aside0.mk (Below.refl w.heap.size w)
  have H : ((spec_l15Copy.f k a0_0 a0_1 a0_2 l0_3).bind fun bt216 => ((spec_l15Copy.f k a1_0 a1_1 a1_2 l1_3).bind fun bt222 => (some (9, 0, 0, (([(⟨bt216.1, bt216.2.1, bt216.2.2.1, bt216.2.2.2⟩ : S29), (⟨bt222.1, bt222.2.1, bt222.2.2.1, bt222.2.2.2⟩ : S29)] : List (S29))))))) = some (r1, r2, r3, r4) := h
  clear h
  replace H := Option.bind_eq_some_iff.mp H
  obtain ⟨⟨t216, t217, t218, t219⟩, A30, H⟩ := H
  replace H : ((spec_l15Copy.f k a1_0 a1_1 a1_2 l1_3).bind fun bt222 => (some (9, 0, 0, (([(⟨t216, t217, t218, t219⟩ : S29), (⟨bt222.1, bt222.2.1, bt222.2.2.1, bt222.2.2.2⟩ : S29)] : List (S29)))))) = some (r1, r2, r3, r4) := H
  have A3 := Aside0.mk A30
  clear A30
  replace H := Option.bind_eq_some_iff.mp H
  obtain ⟨⟨t222, t223, t224, t225⟩, A40, H⟩ := H
  replace H : (some (9, 0, 0, (([(⟨t216, t217, t218, t219⟩ : S29), (⟨t222, t223, t224, t225⟩ : S29)] : List (S29))))) = some (r1, r2, r3, r4) := H
  have A4 := Aside0.mk A40
  clear A40
  obtain ⟨y228, hy228⟩ : ∃ y_ : List (S29), y_ = (([(⟨t216, t217, t218, t219⟩ : S29), (⟨t222, t223, t224, t225⟩ : S29)] : List (S29))) := ⟨_, rfl⟩
  replace H : (some (9, 0, 0, y228)) = some (r1, r2, r3, r4) := by first | (rw [hy228]; with_reducible exact H) | (have H2_ := (Option.bind_some _ _).symm.trans H; rw [hy228]; with_reducible exact H2_) | (have H2_ := (Option.bind_some _ _).symm.trans H; with_reducible exact H2_) | with_reducible exact H | (rw [hy228]; exact H) | exact H
  have Ny228 := Aside0.mk hy228
  clear hy228
  simp only [Option.some.injEq, Prod.mk.injEq] at H
  obtain ⟨rfl, rfl, rfl, rfl⟩ := H
  go_enter Try.func49, Try.ntmps49
  try go_wp2_with (first | ((with_reducible refine gate_dst (N := 2) rfl ?_); refine box_event ?hg (N := 2) ?hd (cs := #[.int .i64 a0_0, .int .i64 a0_1, .int .i64 a0_2, .slice A0_3 l0_3.length c0_3]) (t := 29) ?hr ?_; (case hd => rfl); (case hg => rfl); (case hr => first | (go_simp; done) | (go_simp; rfl)); intro gb213 hg w5 hbox hb; have n0_ := Aside0.mk (below_step z49_4 hb); have n1_ := Aside0.mk (hbox); have n2_ := Aside0.mk ((by rw [hg]; exact (below_size z49_4) : w.heap.size ≤ gb213)); have n3_ := Aside0.mk ((by rw [hg]; exact (below_size z49_4) : w.heap.size ≤ gb213)); clear HB; have HB := n0_; have BK213 := n1_; have GW213 := n2_; have GE213 := n3_; clear n0_ n1_ n2_ n3_; clear hb hbox hg) | ((with_reducible refine gate_dst (N := 3) rfl ?_); refine box_event ?hg (N := 3) ?hd (cs := #[.int .i64 a1_0, .int .i64 a1_1, .int .i64 a1_2, .slice A1_3 l1_3.length c1_3]) (t := 29) ?hr ?_; (case hd => rfl); (case hg => rfl); (case hr => first | (go_simp; done) | (go_simp; rfl)); intro gb214 hg w6 hbox hb; have n0_ := Aside0.mk (blk_below (g := gb213) (o := .cells #[.int .i64 a0_0, .int .i64 a0_1, .int .i64 a0_2, .slice A0_3 l0_3.length c0_3] 29 (0, 0)) (pB49_ BK213.out) hb); have n1_ := Aside0.mk (below_step z49_2 hb); have n2_ := Aside0.mk (hbox); have n3_ := Aside0.mk ((by rw [hg]; exact (below_size z49_2) : w.heap.size ≤ gb214)); have n4_ := Aside0.mk ((by rw [hg]; exact (below_size z49_2) : w.heap.size ≤ gb214)); have n5_ := Aside0.mk ((by rw [hg]; exact Nat.ne_of_lt (blk_lt (g := gb213) (o := .cells #[.int .i64 a0_0, .int .i64 a0_1, .int .i64 a0_2, .slice A0_3 l0_3.length c0_3] 29 (0, 0)) (pB49_ BK213.out)) : gb213 ≠ gb214)); have n6_ := Aside0.mk ((by rw [hg]; exact Nat.ne_of_gt (blk_lt (g := gb213) (o := .cells #[.int .i64 a0_0, .int .i64 a0_1, .int .i64 a0_2, .slice A0_3 l0_3.length c0_3] 29 (0, 0)) (pB49_ BK213.out)) : gb214 ≠ gb213)); clear BK213; clear HB; have BK213 := n0_; have HB := n1_; have BK214 := n2_; have GW214 := n3_; have GE214 := n4_; have NB213_214 := n5_; have NB214_213 := n6_; clear n0_ n1_ n2_ n3_ n4_ n5_ n6_; clear hb hbox hg) | ((with_reducible refine gate_dst (N := 4) rfl ?_); refine box_event ?hg (N := 4) ?hd (cs := #[.int .i64 0, .int .i64 0, .int .i64 0, .slice none 0 0]) (t := 29) ?hr ?_; (case hd => rfl); (case hg => rfl); (case hr => first | (go_simp; done) | (go_simp; rfl)); intro gb215 hg w7 hbox hb; have n0_ := Aside0.mk (blk_below (g := gb213) (o := .cells #[.int .i64 a0_0, .int .i64 a0_1, .int .i64 a0_2, .slice A0_3 l0_3.length c0_3] 29 (0, 0)) (pB49_ BK213.out) hb); have n1_ := Aside0.mk (blk_below (g := gb214) (o := .cells #[.int .i64 a1_0, .int .i64 a1_1, .int .i64 a1_2, .slice A1_3 l1_3.length c1_3] 29 (0, 0)) (pB49_ BK214.out) hb); have n2_ := Aside0.mk (below_step z49_1 hb); have n3_ := Aside0.mk (hbox); have n4_ := Aside0.mk ((by rw [hg]; exact (below_size z49_1) : w.heap.size ≤ gb215)); have n5_ := Aside0.mk ((by rw [hg]; exact (below_size z49_1) : w.heap.size ≤ gb215)); have n6_ := Aside0.mk ((by rw [hg]; exact Nat.ne_of_lt (blk_lt (g := gb213) (o := .cells #[.int .i64 a0_0, .int .i64 a0_1, .int .i64 a0_2, .slice A0_3 l0_3.length c0_3] 29 (0, 0)) (pB49_ BK213.out)) : gb213 ≠ gb215)); have n7_ := Aside0.mk ((by rw [hg]; exact Nat.ne_of_gt (blk_lt (g := gb213) (o := .cells #[.int .i64 a0_0, .int .i64 a0_1, .int .i64 a0_2, .slice A0_3 l0_3.length c0_3] 29 (0, 0)) (pB49_ BK213.out)) : gb215 ≠ gb213)); have n8_ := Aside0.mk ((by rw [hg]; exact Nat.ne_of_lt (blk_lt (g := gb214) (o := .cells #[.int .i64 a1_0, .int .i64 a1_1, .int .i64 a1_2, .slice A1_3 l1_3.length c1_3] 29 (0, 0)) (pB49_ BK214.out)) : gb214 ≠ gb215)); have n9_ := Aside0.mk ((by rw [hg]; exact Nat.ne_of_gt (blk_lt (g := gb214) (o := .cells #[.int .i64 a1_0, .int .i64 a1_1, .int .i64 a1_2, .slice A1_3 l1_3.length c1_3] 29 (0, 0)) (pB49_ BK214.out)) : gb215 ≠ gb214)); clear BK213; clear BK214; clear HB; have BK213 := n0_; have BK214 := n1_; have HB := n2_; have BK215 := n3_; have GW215 := n4_; have GE215 := n5_; have NB213_215 := n6_; have NB215_213 := n7_; have NB214_215 := n8_; have NB215_214 := n9_; clear n0_ n1_ n2_ n3_ n4_ n5_ n6_ n7_ n8_ n9_; clear hb hbox hg))
  have n0_ := Aside0.mk (blk_drew BK213.out)
  have n1_ := Aside0.mk (blk_drew BK214.out)
  have n2_ := Aside0.mk (blk_drew BK215.out)
  have n3_ := Aside0.mk (bD_ HB.out)
  clear BK213
  clear BK214
  clear BK215
  clear HB
  have BK213 := n0_
  have BK214 := n1_
  have BK215 := n2_
  have HB := n3_
  clear n0_ n1_ n2_ n3_
  refine start_ (n := 7) (S := fun w' => w'.cell? ⟨gb213, 0, none⟩ = some (.int .i64 a0_0) ∧ w'.cell? ⟨gb213, 1, none⟩ = some (.int .i64 a0_1) ∧ w'.cell? ⟨gb213, 2, none⟩ = some (.int .i64 a0_2) ∧ w'.cell? ⟨gb213, 3, none⟩ = some (.slice A0_3 l0_3.length c0_3) ∧ w'.cell? ⟨gb214, 0, none⟩ = some (.int .i64 a1_0) ∧ w'.cell? ⟨gb214, 1, none⟩ = some (.int .i64 a1_1) ∧ w'.cell? ⟨gb214, 2, none⟩ = some (.int .i64 a1_2) ∧ w'.cell? ⟨gb214, 3, none⟩ = some (.slice A1_3 l1_3.length c1_3)) (ds := []) #[false, false, false, false, false, false, false] (by kernel_rfl) rfl rfl ⟨(bC_ BK213.out 0).trans rfl, (bC_ BK213.out 1).trans rfl, (bC_ BK213.out 2).trans rfl, (bC_ BK213.out 3).trans rfl, (bC_ BK214.out 0).trans rfl, (bC_ BK214.out 1).trans rfl, (bC_ BK214.out 2).trans rfl, (bC_ BK214.out 3).trans rfl⟩ (fun hHeld => ?_)
  generalize w7.drew = w8 at BK213 BK214 BK215 HB hHeld ⊢
  refine take_ (i := 0) (N := some 5) (v := ?_) (a' := ?_) #[true, false, false, false, false, false, false] rfl rfl (by kernel_rfl) (fun _ _ _ h => h) (Or.inl ⟨by rfl, ?_⟩) hHeld ?_ ?_
  rotate_left
  · rintro w' ⟨s0, s1, s2, s3, s4, s5, s6, s7⟩
    go_simp
    with_reducible rfl
  rotate_left
  · simp only [Act.put, List.setIfInBounds_toArray, List.set_cons_zero, List.set_cons_succ, i64_w, i32_w]
    rfl
  refine take_ (i := 2) (N := some 7) (v := ?_) (a' := ?_) #[true, false, true, false, false, false, false] rfl rfl (by kernel_rfl) (fun _ _ _ h => h) (Or.inl ⟨by rfl, ?_⟩) hHeld ?_ ?_
  rotate_left
  · rintro w' ⟨s0, s1, s2, s3, s4, s5, s6, s7⟩
    go_simp
    with_reducible rfl
  rotate_left
  · simp only [Act.put, List.setIfInBounds_toArray, List.set_cons_zero, List.set_cons_succ, i64_w, i32_w]
    rfl
  refine one_ (i := 1) (N := some 6) #[true, true, true, false, false, false, false] rfl rfl (by kernel_rfl) (by decide) (fun K hK => ?_)
  refine goes_ Try.func34 (by kernel_rfl) rfl #[.agg #[.int .i64 a0_0, .int .i64 a0_1, .int .i64 a0_2, .slice A0_3 l0_3.length c0_3]] (by rfl) rfl rfl (by (try simp only [List.map_toArray, List.map_cons, List.map_nil]); first | done | rfl | (simp only [List.length_drop, List.length_take]; rfl)) ?_
  with_reducible refine (spec_l15Copy.calls k a0_0 a0_1 a0_2 _ _ l0_3 t216 t217 t218 t219 _ ?side1 ?side2 A3.out).mono ?_
  (case side1 => repeat (first | exact (Kd.C_below HR0_3.out HB.out) | (with_reducible refine Kd.C_alloc ?_ _) | (with_reducible refine Kd.C_drewN ?_ _) | (with_reducible refine Kd.C_drew ?_)))
  (case side2 => exact HC0_3.out)
  rintro e w9 ⟨v220, rfl, ho0, hb⟩
  refine ⟨_, rfl, ?_⟩
  have n0_ := Aside0.mk (Kd.S_lower (Kd.S_mono (ok' := fun k_ => (w.heap.size ≤ k_) ∧ k_ ≠ gb213 ∧ k_ ≠ gb214 ∧ k_ ≠ gb215) (Kd.S_bound ho0) (fun k_ hk_ => ⟨(Nat.le_trans (below_size z49_0) hk_.2.1), (Kd.freshB (g := gb213) (o := .cells #[.int .i64 a0_0, .int .i64 a0_1, .int .i64 a0_2, .slice A0_3 l0_3.length c0_3] 29 (0, 0)) (pB49_ BK213.out) k_ hk_.2.1), (Kd.freshB (g := gb214) (o := .cells #[.int .i64 a1_0, .int .i64 a1_1, .int .i64 a1_2, .slice A1_3 l1_3.length c1_3] 29 (0, 0)) (pB49_ BK214.out) k_ hk_.2.1), (Kd.freshB (g := gb215) (o := .cells #[.int .i64 0, .int .i64 0, .int .i64 0, .slice none 0 0] 29 (0, 0)) (pB49_ BK215.out) k_ hk_.2.1)⟩)) (below_size z49_0))
  have n1_ := Aside0.mk (blk_below (g := gb213) (o := .cells #[.int .i64 a0_0, .int .i64 a0_1, .int .i64 a0_2, .slice A0_3 l0_3.length c0_3] 29 (0, 0)) (pB49_ BK213.out) hb)
  have n2_ := Aside0.mk (blk_below (g := gb214) (o := .cells #[.int .i64 a1_0, .int .i64 a1_1, .int .i64 a1_2, .slice A1_3 l1_3.length c1_3] 29 (0, 0)) (pB49_ BK214.out) hb)
  have n3_ := Aside0.mk (blk_below (g := gb215) (o := .cells #[.int .i64 0, .int .i64 0, .int .i64 0, .slice none 0 0] 29 (0, 0)) (pB49_ BK215.out) hb)
  have n4_ := Aside0.mk (below_step z49_0 hb)
  clear BK213
  clear BK214
  clear BK215
  clear HB
  have HO221 := n0_
  have BK213 := n1_
  have BK214 := n2_
  have BK215 := n3_
  have HB := n4_
  clear n0_ n1_ n2_ n3_ n4_
  (try clear hb)
  (try clear hb2)
  (try clear hk)
  (try clear hi)
  (try clear ho0)
  refine hK.out _ _ ⟨(bC_ BK213.out 0).trans rfl, (bC_ BK213.out 1).trans rfl, (bC_ BK213.out 2).trans rfl, (bC_ BK213.out 3).trans rfl, (bC_ BK214.out 0).trans rfl, (bC_ BK214.out 1).trans rfl, (bC_ BK214.out 2).trans rfl, (bC_ BK214.out 3).trans rfl⟩ (fun hHeld => ?_)
  clear hK K
  refine norm_ (a' := ?_) ?_ ?_
  rotate_left
  · show Act.put _ (some 6) _ = _
    simp only [Act.put, List.setIfInBounds_toArray, List.set_cons_zero, List.set_cons_succ, i64_w, i32_w]
    rfl
  refine one_ (i := 3) (N := some 8) #[true, true, true, true, false, false, false] rfl rfl (by kernel_rfl) (by decide) (fun K hK => ?_)
  refine goes_ Try.func34 (by kernel_rfl) rfl #[.agg #[.int .i64 a1_0, .int .i64 a1_1, .int .i64 a1_2, .slice A1_3 l1_3.length c1_3]] (by rfl) rfl rfl (by (try simp only [List.map_toArray, List.map_cons, List.map_nil]); first | done | rfl | (simp only [List.length_drop, List.length_take]; rfl)) ?_
  with_reducible refine (spec_l15Copy.calls k a1_0 a1_1 a1_2 _ _ l1_3 t222 t223 t224 t225 _ ?side1 ?side2 A4.out).mono ?_
  (case side1 => repeat (first | exact (Kd.C_below HR1_3.out HB.out) | (with_reducible refine Kd.C_alloc ?_ _) | (with_reducible refine Kd.C_drewN ?_ _) | (with_reducible refine Kd.C_drew ?_)))
  (case side2 => exact HC1_3.out)
  rintro e w10 ⟨v226, rfl, ho0, hb⟩
  refine ⟨_, rfl, ?_⟩
  have n0_ := Aside0.mk (Kd.S_elder' z49_3 (Kd.S_base ho0) hb)
  have n1_ := Aside0.mk (Kd.S_lower (Kd.S_mono (ok' := fun k_ => (w.heap.size ≤ k_) ∧ some k_ ≠ (v220 : Value).ownBlock ∧ k_ ≠ gb213 ∧ k_ ≠ gb214 ∧ k_ ≠ gb215) (Kd.S_bound ho0) (fun k_ hk_ => ⟨(Nat.le_trans (below_size z49_0) hk_.2.1), (Kd.fresh' (Kd.S_lt z49_3) k_ hk_.2.1), (Kd.freshB (g := gb213) (o := .cells #[.int .i64 a0_0, .int .i64 a0_1, .int .i64 a0_2, .slice A0_3 l0_3.length c0_3] 29 (0, 0)) (pB49_ BK213.out) k_ hk_.2.1), (Kd.freshB (g := gb214) (o := .cells #[.int .i64 a1_0, .int .i64 a1_1, .int .i64 a1_2, .slice A1_3 l1_3.length c1_3] 29 (0, 0)) (pB49_ BK214.out) k_ hk_.2.1), (Kd.freshB (g := gb215) (o := .cells #[.int .i64 0, .int .i64 0, .int .i64 0, .slice none 0 0] 29 (0, 0)) (pB49_ BK215.out) k_ hk_.2.1)⟩)) (below_size z49_0))
  obtain ⟨NC0, HEC0, HRC0⟩ := Go.Proofs.YthjhenhmjmpkaaaTree.S_split z49_3 (Kd.S_mono (ok' := fun k_ => (w.heap.size ≤ k_) ∧ some k_ ≠ (v220 : Value).ownBlock ∧ k_ ≠ gb213 ∧ k_ ≠ gb214 ∧ k_ ≠ gb215) (Kd.S_bound ho0) (fun k_ hk_ => ⟨(Nat.le_trans (below_size z49_0) hk_.2.1), (Kd.fresh' (Kd.S_lt z49_3) k_ hk_.2.1), (Kd.freshB (g := gb213) (o := .cells #[.int .i64 a0_0, .int .i64 a0_1, .int .i64 a0_2, .slice A0_3 l0_3.length c0_3] 29 (0, 0)) (pB49_ BK213.out) k_ hk_.2.1), (Kd.freshB (g := gb214) (o := .cells #[.int .i64 a1_0, .int .i64 a1_1, .int .i64 a1_2, .slice A1_3 l1_3.length c1_3] 29 (0, 0)) (pB49_ BK214.out) k_ hk_.2.1), (Kd.freshB (g := gb215) (o := .cells #[.int .i64 0, .int .i64 0, .int .i64 0, .slice none 0 0] 29 (0, 0)) (pB49_ BK215.out) k_ hk_.2.1)⟩)) hb (below_size z49_0)
  have n2_ := Aside0.mk (blk_below (g := gb213) (o := .cells #[.int .i64 a0_0, .int .i64 a0_1, .int .i64 a0_2, .slice A0_3 l0_3.length c0_3] 29 (0, 0)) (pB49_ BK213.out) hb)
  have n3_ := Aside0.mk (blk_below (g := gb214) (o := .cells #[.int .i64 a1_0, .int .i64 a1_1, .int .i64 a1_2, .slice A1_3 l1_3.length c1_3] 29 (0, 0)) (pB49_ BK214.out) hb)
  have n4_ := Aside0.mk (blk_below (g := gb215) (o := .cells #[.int .i64 0, .int .i64 0, .int .i64 0, .slice none 0 0] 29 (0, 0)) (pB49_ BK215.out) hb)
  have n5_ := Aside0.mk (below_step z49_0 hb)
  clear HO221
  clear BK213
  clear BK214
  clear BK215
  clear HB
  have HO221 := n0_
  have HO227 := n1_
  have BK213 := n2_
  have BK214 := n3_
  have BK215 := n4_
  have HB := n5_
  clear n0_ n1_ n2_ n3_ n4_ n5_
  (try clear hb)
  (try clear hb2)
  (try clear hk)
  (try clear hi)
  (try clear ho0)
  obtain ⟨Ao11, co11, eo11⟩ := Kd.S_slice HO221.out
  (first | subst eo11 | (injection eo11 with f1_ f2_ f3_; have f4_ := f1_.symm; have f5_ := f3_.symm; clear f1_ f2_ f3_; subst f4_; subst f5_))
  obtain ⟨Ao12, co12, eo12⟩ := Kd.S_slice HO227.out
  (first | subst eo12 | (injection eo12 with f1_ f2_ f3_; have f4_ := f1_.symm; have f5_ := f3_.symm; clear f1_ f2_ f3_; subst f4_; subst f5_))
  refine hK.out _ _ ⟨(bC_ BK213.out 0).trans rfl, (bC_ BK213.out 1).trans rfl, (bC_ BK213.out 2).trans rfl, (bC_ BK213.out 3).trans rfl, (bC_ BK214.out 0).trans rfl, (bC_ BK214.out 1).trans rfl, (bC_ BK214.out 2).trans rfl, (bC_ BK214.out 3).trans rfl⟩ (fun hHeld => ?_)
  clear hK K
  refine norm_ (a' := ?_) ?_ ?_
  rotate_left
  · show Act.put _ (some 8) _ = _
    simp only [Act.put, List.setIfInBounds_toArray, List.set_cons_zero, List.set_cons_succ, i64_w, i32_w]
    rfl
  refine one_ (i := 4) (N := some 9) #[true, true, true, true, true, false, false] rfl rfl (by kernel_rfl) (by decide) (fun K hK => ?_)
  refine Kd.S_lits_step k29 w.heap.size 29 ?hg (N := 9) ?hd (xs := ([(⟨t216, t217, t218, t219⟩ : S29), (⟨t222, t223, t224, t225⟩ : S29)] : List (S29))) (inner := [.int .i64 t216, .int .i64 t217, .int .i64 t218, .slice Ao11 t219.length co11, .int .i64 t222, .int .i64 t223, .int .i64 t224, .slice Ao12 t225.length co12]) (ok := (fun k_ => (w.heap.size ≤ k_) ∧ k_ ≠ gb213 ∧ k_ ≠ gb214 ∧ k_ ≠ gb215)) (Go.Proofs.YthjhenhmjmpkaaaTree.okj2 (fun k_ => (w.heap.size ≤ k_) ∧ k_ ≠ gb213 ∧ k_ ≠ gb214 ∧ k_ ≠ gb215) NC0) ?hr rfl ?hp (Go.Proofs.YthjhenhmjmpkaaaTree.okj2_ap _ _) (Go.Proofs.YthjhenhmjmpkaaaTree.okj2_ok _ _) ((show ∀ k_, w10.heap.size ≤ k_ → (fun k_ => (w.heap.size ≤ k_) ∧ k_ ≠ gb213 ∧ k_ ≠ gb214 ∧ k_ ≠ gb215) k_ from fun k_ hk => ⟨(Nat.le_trans (below_size z49_0) hk), Kd.freshB (g := gb213) (o := .cells #[.int .i64 a0_0, .int .i64 a0_1, .int .i64 a0_2, .slice A0_3 l0_3.length c0_3] 29 (0, 0)) (pB49_ BK213.out) k_ hk, Kd.freshB (g := gb214) (o := .cells #[.int .i64 a1_0, .int .i64 a1_1, .int .i64 a1_2, .slice A1_3 l1_3.length c1_3] 29 (0, 0)) (pB49_ BK214.out) k_ hk, Kd.freshB (g := gb215) (o := .cells #[.int .i64 0, .int .i64 0, .int .i64 0, .slice none 0 0] 29 (0, 0)) (pB49_ BK215.out) k_ hk⟩) _ (Nat.le_refl _)) (Below.refl _ _) (below_size z49_0) (by simp) ?_; (case hd => rfl); (case hg => rfl); (case hr => first | (go_simp; done) | (go_simp; rfl)); (case hp => exact Go.Proofs.YthjhenhmjmpkaaaTree.lit2 (c0 := [.int .i64 t216, .int .i64 t217, .int .i64 t218, .slice Ao11 t219.length co11]) (c1 := [.int .i64 t222, .int .i64 t223, .int .i64 t224, .slice Ao12 t225.length co12]) (k29_mkM _ _ _ (⟨t216, t217, t218, t219⟩ : S29) (Kd.S_mono (ok' := fun k_ => ((fun k_ => (w.heap.size ≤ k_) ∧ k_ ≠ gb213 ∧ k_ ≠ gb214 ∧ k_ ≠ gb215)) k_ ∧ k_ < NC0) HEC0.out (fun k_ hk_ => ⟨hk_.1, hk_.2⟩))) (k29_mkM _ _ _ (⟨t222, t223, t224, t225⟩ : S29) (Kd.S_mono (ok' := fun k_ => ((fun k_ => (w.heap.size ≤ k_) ∧ k_ ≠ gb213 ∧ k_ ≠ gb214 ∧ k_ ≠ gb215)) k_ ∧ NC0 ≤ k_) HRC0.out (fun k_ hk_ => ⟨⟨hk_.1.1, hk_.1.2.2⟩, hk_.2⟩))))
  intro v229 w13 ho14 hb hg_ hnew_
  replace hb := pw_below_grown (Below.refl _ _) none (Nat.le_refl _) hg_ (fun k hk => by cases hk)
  clear hg_ hnew_
  (first | rw [← Ny228.out] at ho14 | (simp only [Int.reduceToNat] at ho14; rw [← Ny228.out] at ho14))
  have n0_ := Aside0.mk ho14
  have n1_ := Aside0.mk (blk_below (g := gb213) (o := .cells #[.int .i64 a0_0, .int .i64 a0_1, .int .i64 a0_2, .slice A0_3 l0_3.length c0_3] 29 (0, 0)) (pB49_ BK213.out) hb)
  have n2_ := Aside0.mk (blk_below (g := gb214) (o := .cells #[.int .i64 a1_0, .int .i64 a1_1, .int .i64 a1_2, .slice A1_3 l1_3.length c1_3] 29 (0, 0)) (pB49_ BK214.out) hb)
  have n3_ := Aside0.mk (blk_below (g := gb215) (o := .cells #[.int .i64 0, .int .i64 0, .int .i64 0, .slice none 0 0] 29 (0, 0)) (pB49_ BK215.out) hb)
  have n4_ := Aside0.mk (below_step z49_0 hb)
  clear BK213
  clear BK214
  clear BK215
  clear HB
  clear HO221
  clear HO227
  have HO230 := n0_
  have BK213 := n1_
  have BK214 := n2_
  have BK215 := n3_
  have HB := n4_
  clear n0_ n1_ n2_ n3_ n4_
  clear hb ho14
  obtain ⟨Ao15, co15, eo15⟩ := Kd.S_slice HO230.out
  (first | subst eo15 | (injection eo15 with f1_ f2_ f3_; have f4_ := f1_.symm; have f5_ := f3_.symm; clear f1_ f2_ f3_; subst f4_; subst f5_))
  refine hK.out _ _ ⟨(bC_ BK213.out 0).trans rfl, (bC_ BK213.out 1).trans rfl, (bC_ BK213.out 2).trans rfl, (bC_ BK213.out 3).trans rfl, (bC_ BK214.out 0).trans rfl, (bC_ BK214.out 1).trans rfl, (bC_ BK214.out 2).trans rfl, (bC_ BK214.out 3).trans rfl⟩ (fun hHeld => ?_)
  clear hK K
  refine norm_ (a' := ?_) ?_ ?_
  rotate_left
  · show Act.put _ (some 9) _ = _
    simp only [Act.put, List.setIfInBounds_toArray, List.set_cons_zero, List.set_cons_succ, i64_w, i32_w]
    rfl
  refine pure_ (i := 5) (N := some 10) (v := ?_) (a' := ?_) #[true, true, true, true, true, true, false] rfl rfl (by kernel_rfl) (fun _ _ _ h => h) (Or.inl ⟨by rfl, ?_⟩) ?_ ?_
  rotate_left
  · intro w'
    go_simp
    with_reducible rfl
  rotate_left
  · simp only [Act.put, List.setIfInBounds_toArray, List.set_cons_zero, List.set_cons_succ, i64_w, i32_w]
    rfl
  refine one_ (i := 6) (N := none) #[true, true, true, true, true, true, true] rfl rfl (by kernel_rfl) (by decide) (fun K hK => ?_)
  have hs16 : w13.cell? ⟨gb215, 0, none⟩ = some (.int .i64 0) := (bC_ BK215.out 0).trans rfl
  have hfs16 := bF_ BK215.out 0
  have hns16_0 := NB213_215.out
  have hns16_1 := NB214_215.out
  have hms16_0 := NB215_213.out
  have hms16_1 := NB215_214.out
  have hs17 : w13.cell? ⟨gb215, 1, none⟩ = some (.int .i64 0) := (bC_ BK215.out 1).trans rfl
  have hfs17 := bF_ BK215.out 1
  have hns17_0 := NB213_215.out
  have hns17_1 := NB214_215.out
  have hms17_0 := NB215_213.out
  have hms17_1 := NB215_214.out
  have hs18 : w13.cell? ⟨gb215, 2, none⟩ = some (.int .i64 0) := (bC_ BK215.out 2).trans rfl
  have hfs18 := bF_ BK215.out 2
  have hns18_0 := NB213_215.out
  have hns18_1 := NB214_215.out
  have hms18_0 := NB215_213.out
  have hms18_1 := NB215_214.out
  have hs19 : w13.cell? ⟨gb215, 3, none⟩ = some (.slice none 0 0) := (bC_ BK215.out 3).trans rfl
  have hfs19 := bF_ BK215.out 3
  have hns19_0 := NB213_215.out
  have hns19_1 := NB214_215.out
  have hms19_0 := NB215_213.out
  have hms19_1 := NB215_214.out
  refine skip_ (w1 := ?_) (by rfl) rfl ?_ ?_
  rotate_left
  · go_simp
    rfl
  refine hK.out _ _ ⟨((cell_far (p := ⟨gb215, _, none⟩) NB213_215.out _).trans (((cell_far (p := ⟨gb215, _, none⟩) NB213_215.out _).trans (((cell_far (p := ⟨gb215, _, none⟩) NB213_215.out _).trans (((cell_far (p := ⟨gb215, _, none⟩) NB213_215.out _).trans (hHeld.1)))))))), ((cell_far (p := ⟨gb215, _, none⟩) NB213_215.out _).trans (((cell_far (p := ⟨gb215, _, none⟩) NB213_215.out _).trans (((cell_far (p := ⟨gb215, _, none⟩) NB213_215.out _).trans (((cell_far (p := ⟨gb215, _, none⟩) NB213_215.out _).trans (hHeld.2.1)))))))), ((cell_far (p := ⟨gb215, _, none⟩) NB213_215.out _).trans (((cell_far (p := ⟨gb215, _, none⟩) NB213_215.out _).trans (((cell_far (p := ⟨gb215, _, none⟩) NB213_215.out _).trans (((cell_far (p := ⟨gb215, _, none⟩) NB213_215.out _).trans (hHeld.2.2.1)))))))), ((cell_far (p := ⟨gb215, _, none⟩) NB213_215.out _).trans (((cell_far (p := ⟨gb215, _, none⟩) NB213_215.out _).trans (((cell_far (p := ⟨gb215, _, none⟩) NB213_215.out _).trans (((cell_far (p := ⟨gb215, _, none⟩) NB213_215.out _).trans (hHeld.2.2.2.1)))))))), ((cell_far (p := ⟨gb215, _, none⟩) NB214_215.out _).trans (((cell_far (p := ⟨gb215, _, none⟩) NB214_215.out _).trans (((cell_far (p := ⟨gb215, _, none⟩) NB214_215.out _).trans (((cell_far (p := ⟨gb215, _, none⟩) NB214_215.out _).trans (hHeld.2.2.2.2.1)))))))), ((cell_far (p := ⟨gb215, _, none⟩) NB214_215.out _).trans (((cell_far (p := ⟨gb215, _, none⟩) NB214_215.out _).trans (((cell_far (p := ⟨gb215, _, none⟩) NB214_215.out _).trans (((cell_far (p := ⟨gb215, _, none⟩) NB214_215.out _).trans (hHeld.2.2.2.2.2.1)))))))), ((cell_far (p := ⟨gb215, _, none⟩) NB214_215.out _).trans (((cell_far (p := ⟨gb215, _, none⟩) NB214_215.out _).trans (((cell_far (p := ⟨gb215, _, none⟩) NB214_215.out _).trans (((cell_far (p := ⟨gb215, _, none⟩) NB214_215.out _).trans (hHeld.2.2.2.2.2.2.1)))))))), ((cell_far (p := ⟨gb215, _, none⟩) NB214_215.out _).trans (((cell_far (p := ⟨gb215, _, none⟩) NB214_215.out _).trans (((cell_far (p := ⟨gb215, _, none⟩) NB214_215.out _).trans (((cell_far (p := ⟨gb215, _, none⟩) NB214_215.out _).trans (hHeld.2.2.2.2.2.2.2))))))))⟩ (fun hHeld => ?_)
  clear hK K
  refine done_ (by kernel_rfl) ?_
  try go_wp2
  refine bodyPost_ret (results_cell_row rfl _ _ gb215 29 #[.int .i64 9, .int .i64 0, .int .i64 0, .slice Ao15 y228.length co15] (0, 0) _ rfl (by (with_reducible repeat (first | refine blk_drewN ?_ _ | refine blk_drew ?_ | refine blk_alloc ?_ _)); refine blk_put (cs := #[.int .i64 9, .int .i64 0, .int .i64 0, .slice none 0 0]) ?_ 3 _ rfl; (with_reducible repeat (first | refine blk_drewN ?_ _ | refine blk_drew ?_ | refine blk_alloc ?_ _)); refine blk_put (cs := #[.int .i64 9, .int .i64 0, .int .i64 0, .slice none 0 0]) ?_ 2 _ rfl; (with_reducible repeat (first | refine blk_drewN ?_ _ | refine blk_drew ?_ | refine blk_alloc ?_ _)); refine blk_put (cs := #[.int .i64 9, .int .i64 0, .int .i64 0, .slice none 0 0]) ?_ 1 _ rfl; (with_reducible repeat (first | refine blk_drewN ?_ _ | refine blk_drew ?_ | refine blk_alloc ?_ _)); refine blk_put (cs := #[.int .i64 0, .int .i64 0, .int .i64 0, .slice none 0 0]) ?_ 0 _ rfl; (with_reducible repeat (first | refine blk_drewN ?_ _ | refine blk_drew ?_ | refine blk_alloc ?_ _)); exact BK215.out) Try.underlying29 rfl (by kernel_rfl)) rfl ?_
  exact ⟨_, by first | rfl | (simp [errW_none, errW_some] <;> rfl) | (simp [*, errW_none, errW_some] <;> rfl), by (with_reducible repeat (first | apply Kd.S_alloc | apply Kd.S_drewN | apply Kd.S_drew)); exact Kd.S_mono (Kd.S_far (p := ⟨gb215, 3, none⟩) (Kd.S_far (p := ⟨gb215, 2, none⟩) (Kd.S_far (p := ⟨gb215, 1, none⟩) (Kd.S_far (p := ⟨gb215, 0, none⟩) (Kd.S_mono HO230.out (fun k_ hk => (⟨hk, hk.2.2.2⟩ : _ ∧ k_ ≠ gb215))) (fun _ hk => hk.2) (.int .i64 9)) (fun _ hk => hk.2) (.int .i64 0)) (fun _ hk => hk.2) (.int .i64 0)) (fun _ hk => hk.2) (.slice Ao15 y228.length co15)) (fun _ hk => hk.1.1), by repeat (first | (with_reducible first | exact HB.out | apply bA_ | apply bN_ | apply bD_ | refine bS_ ?_ GE213.out | refine bS_ ?_ GE214.out | refine bS_ ?_ GE215.out) | exact HB.out)⟩

/-! ### spec_l15Cond: function 43 -/
mutual
def spec_l15Cond.j0 : Nat → Int → Bool → List Int → Int → Int → Option (Int × Int × Int × (List (S29)) × Int × Int)
  | 0, _, _, _, _, _ => none
  | k + 1, x1, x12, x1000, x1001, x1002 => if x12 = true then ((spec_l15Leaf.f k x1000 x1001 x1002).bind fun bt235 => (some (bt235.1, bt235.2.1, bt235.2.2.1, bt235.2.2.2.1, bt235.2.2.2.2.1, bt235.2.2.2.2.2))) else ((spec_l1Below.f x1000 x1001 x1002 5).bind fun bt243 => (if bt243.1 = 0 then ((spec_l15Cond.f k x1000 bt243.2.1 bt243.2.2 (wrap64 (x1 - 1))).bind fun bt246 => ((spec_CondNot.f k bt246.1 bt246.2.1 bt246.2.2.1 bt246.2.2.2.1).bind fun bt254 => (some (bt254.1, bt254.2.1, bt254.2.2.1, bt254.2.2.2, bt246.2.2.2.2.1, bt246.2.2.2.2.2)))) else (if bt243.1 = 1 then (spec_l15Cond.j1 k x1 (bt243.1 == 1) x1000 bt243.2.1 bt243.2.2) else (spec_l15Cond.j1 k x1 (bt243.1 == 2) x1000 bt243.2.1 bt243.2.2))))
def spec_l15Cond.j1 : Nat → Int → Bool → List Int → Int → Int → Option (Int × Int × Int × (List (S29)) × Int × Int)
  | 0, _, _, _, _, _ => none
  | k + 1, x1, x24, x1000, x1001, x1002 => if x24 = true then ((spec_l15Cond.f k x1000 x1001 x1002 (wrap64 (x1 - 1))).bind fun bt260 => ((spec_l15Cond.f k x1000 bt260.2.2.2.2.1 bt260.2.2.2.2.2 (wrap64 (x1 - 1))).bind fun bt269 => ((spec_CondAnd.f k bt260.1 bt260.2.1 bt260.2.2.1 bt260.2.2.2.1 bt269.1 bt269.2.1 bt269.2.2.1 bt269.2.2.2.1).bind fun bt277 => (some (bt277.1, bt277.2.1, bt277.2.2.1, bt277.2.2.2, bt269.2.2.2.2.1, bt269.2.2.2.2.2))))) else ((spec_l15Cond.f k x1000 x1001 x1002 (wrap64 (x1 - 1))).bind fun bt283 => ((spec_l15Cond.f k x1000 bt283.2.2.2.2.1 bt283.2.2.2.2.2 (wrap64 (x1 - 1))).bind fun bt292 => ((spec_CondOr.f k bt283.1 bt283.2.1 bt283.2.2.1 bt283.2.2.2.1 bt292.1 bt292.2.1 bt292.2.2.1 bt292.2.2.2.1).bind fun bt300 => (some (bt300.1, bt300.2.1, bt300.2.2.1, bt300.2.2.2, bt292.2.2.2.2.1, bt292.2.2.2.2.2)))))
def spec_l15Cond.f : Nat → List Int → Int → Int → Int → Option (Int × Int × Int × (List (S29)) × Int × Int)
  | 0, _, _, _, _ => none
  | k + 1, s0_0, s0_1, s0_2, a1 => if a1 < 1 then (spec_l15Cond.j0 k a1 true s0_0 s0_1 s0_2) else ((spec_l1Once.f s0_0 s0_1 s0_2 3).bind fun bt232 => (spec_l15Cond.j0 k a1 bt232.1 s0_0 bt232.2.1 bt232.2.2))
end
theorem pB43_ {P Q : Prop} (h : P) (g : P → Q := by intro h_; (with_reducible repeat (first | refine blk_drewN ?_ _ | refine blk_drew ?_ | refine blk_alloc ?_ _)); exact h_) : Q := g h
theorem z43_0 {Q : Prop} (g : Q := by repeat (first | (with_reducible first | exact HK.out | apply KeepBut.set_ | apply keep_drewN | apply keep_drew | apply keep_alloc | refine keep_far ?_ GW231.out _) | exact HK.out)) : Q := g
theorem z43_1 {Q : Prop} (g : Q := by (try simp only [List.map_toArray, List.map_cons, List.map_nil]); first | done | rfl | (simp only [List.length_drop, List.length_take]; rfl)) : Q := g
theorem z43_2 {Q : Prop} (g : Q := by repeat (first | (with_reducible first | exact HK.out | apply KeepBut.set_ | apply keep_drewN | apply keep_drew | apply keep_alloc | refine keep_far ?_ GW231.out _ | refine keep_far ?_ GW291.out _) | exact HK.out)) : Q := g
theorem z43_3 {Q : Prop} (g : Q := by repeat (first | (with_reducible first | exact HK.out | apply KeepBut.set_ | apply keep_drewN | apply keep_drew | apply keep_alloc | refine keep_far ?_ GW231.out _ | refine keep_far ?_ GW268.out _) | exact HK.out)) : Q := g
theorem z43_4 {Q : Prop} (g : Q := by repeat (first | (with_reducible first | exact HI0.out | apply IsS58.alloc | apply IsS58.drewN | apply IsS58.drew | apply IsS58.set_1 | apply IsS58.set_2 | refine IsS58.far ?_ NB0_231.out _) | exact HI0.out)) : Q := g
theorem z43_5 {Q : Prop} (g : Q := by repeat (first | (with_reducible first | exact HB.out | apply bA_ | apply bN_ | apply bD_ | refine bS_ ?_ (IsS58.ge HI0.out) | refine bS_ ?_ GE231.out) | exact HB.out)) : Q := g
theorem z43_6 {Q : Prop} (g : Q := by (with_reducible repeat (first | apply Kd.S_alloc | apply Kd.S_drewN | apply Kd.S_drew)); exact HO288.out) : Q := g
theorem z43_7 {Q : Prop} (g : Q := by (with_reducible repeat (first | apply Kd.S_alloc | apply Kd.S_drewN | apply Kd.S_drew)); exact HO265.out) : Q := g
theorem z43_8 {Q : Prop} (g : Q := by repeat (first | (with_reducible first | exact HK.out | apply KeepBut.set_ | apply keep_drewN | apply keep_drew | apply keep_alloc) | exact HK.out)) : Q := g
set_option maxHeartbeats 8000000 in
set_option maxRecDepth 100000 in
theorem spec_l15Cond.calls (k : Nat) : ∀ (g : Nat) (s0_0 : List Int) (s0_1 : Int) (s0_2 : Int) (a1 : Int) (r1 : Int) (r2 : Int) (r3 : Int) (r4 : List (S29)) (r5 : Int) (r6 : Int) (w0 w : World) (hI : IsS58 w0 w g s0_0 s0_1 s0_2) (hB : Below w0.heap.size w0 w) (h : spec_l15Cond.f k s0_0 s0_1 s0_2 a1 = some (r1, r2, r3, r4, r5, r6)),
    Calls Try.prog 43 #[.pointer (some ⟨g, 0, none⟩), .int .i64 a1] w fun e w' => ∃ v3_ : Value, e = .returned (.agg #[.int .i64 r1, .int .i64 r2, .int .i64 r3, v3_]) ∧ Kd.S k29 29 w' w.heap.size (fun _ => True) v3_ r4 ∧ IsS58 w0 w' g s0_0 r5 r6 ∧ Below w0.heap.size w0 w' ∧ KeepBut w w' g none := by
  induction k using Nat.strongRecOn with
  | _ k ih =>
  intro g s0_0 s0_1 s0_2 a1 r1 r2 r3 r4 r5 r6 w0 w hI hB h
  cases k with
  | zero => exact absurd h (by simp [spec_l15Cond.f])
  | succ k =>
  simp only [spec_l15Cond.f] at h
  have hu29 := Try.underlying29
  have HI0 := Aside0.mk hI
  have HK := Aside0.mk (KeepBut.refl w g none)
  have HL := Aside0.mk hB.size
  clear hI
  have HW0 := Aside0.mk hB.size
  have HB := Aside0.mk hB
  clear hB
  have H : (if a1 < 1 then (spec_l15Cond.j0 k a1 true s0_0 s0_1 s0_2) else ((spec_l1Once.f s0_0 s0_1 s0_2 3).bind fun bt232 => (spec_l15Cond.j0 k a1 bt232.1 s0_0 bt232.2.1 bt232.2.2))) = some (r1, r2, r3, r4, r5, r6) := h
  clear h
  have HC3 := Aside0.mk H
  clear H
  go_enter Try.func43, Try.ntmps43
  go_upto_region 1 with (first | ((with_reducible refine gate_dst (N := 4) rfl ?_); refine box_event ?hg (N := 4) ?hd (cs := #[.int .i64 0, .int .i64 0, .int .i64 0, .slice none 0 0]) (t := 29) ?hr ?_; (case hd => rfl); (case hg => rfl); (case hr => first | (go_simp; done) | (go_simp; rfl)); intro gb231 hg w4 hbox hb; have n0_ := Aside0.mk (IsS58.below (by repeat (first | (with_reducible first | exact HI0.out | apply IsS58.alloc | apply IsS58.drewN | apply IsS58.drew | apply IsS58.set_1 | apply IsS58.set_2) | exact HI0.out)) hb); have n1_ := Aside0.mk (KeepBut.trans z43_8 (KeepBut.of_below hb g none) (.inl rfl)); have n2_ := Aside0.mk (below_step (by repeat (first | (with_reducible first | exact HB.out | apply bA_ | apply bN_ | apply bD_ | refine bS_ ?_ (IsS58.ge HI0.out)) | exact HB.out)) hb); have n3_ := Aside0.mk (hbox); have n4_ := Aside0.mk ((by rw [hg]; exact (keep_size (w := w) (g := g) (row := none) z43_8) : w.heap.size ≤ gb231)); have n5_ := Aside0.mk ((Nat.le_trans HW0.out (by rw [hg]; exact (keep_size (w := w) (g := g) (row := none) z43_8) : w.heap.size ≤ gb231) : w0.heap.size ≤ gb231)); have n6_ := Aside0.mk ((by rw [hg]; exact Nat.ne_of_lt (IsS58.lt (show IsS58 w0 _ g s0_0 s0_1 s0_2 from by repeat (first | (with_reducible first | exact HI0.out | apply IsS58.alloc | apply IsS58.drewN | apply IsS58.drew | apply IsS58.set_1 | apply IsS58.set_2) | exact HI0.out))) : g ≠ gb231)); have n7_ := Aside0.mk ((by rw [hg]; exact Nat.ne_of_gt (IsS58.lt (show IsS58 w0 _ g s0_0 s0_1 s0_2 from by repeat (first | (with_reducible first | exact HI0.out | apply IsS58.alloc | apply IsS58.drewN | apply IsS58.drew | apply IsS58.set_1 | apply IsS58.set_2) | exact HI0.out))) : gb231 ≠ g)); clear HI0; clear HK; clear HB; have HI0 := n0_; have HK := n1_; have HB := n2_; have BK231 := n3_; have GW231 := n4_; have GE231 := n5_; have NB0_231 := n6_; have NB231_0 := n7_; clear n0_ n1_ n2_ n3_ n4_ n5_ n6_ n7_; clear hb hbox hg))
  (try simp only [Act.put, List.setIfInBounds_toArray, List.set_cons_zero, List.set_cons_succ])
  go_cut [12] (fun v12 wc => ∃ (kq : Nat) (x12_2 : Bool) (x1001_2 : Int) (x1002_2 : Int), v12 = .bool x12_2 ∧ Aside0 (spec_l15Cond.j0 kq a1 x12_2 s0_0 x1001_2 x1002_2 = some (r1, r2, r3, r4, r5, r6)) ∧ Aside0 (kq ≤ k) ∧ Aside0 (wc.heap[gb231]? = some (.cells #[.int .i64 0, .int .i64 0, .int .i64 0, (.slice none 0 0)] 29 (0, 0))) ∧ Aside0 (IsS58 w0 wc g s0_0 x1001_2 x1002_2) ∧ Aside0 (KeepBut w wc g none) ∧ Aside0 (Below w0.heap.size w0 wc))
  case first =>
    have H := HC3.out
    clear HC3
    by_cases c5 : a1 < 1
    · rw [if_pos c5] at H
      have c5b0 : decide (a1 < 1) = true := decide_eq_true c5
      clear c5
      (first | rw [c5b0] | (simp only [i64_w, i32_w]; rw [c5b0]) | skip)
      have H' := Aside0.mk H
      clear H
      go_wp2
      go_meet
      case rel => exact ⟨_, (true), (s0_1), (s0_2), (by first | rfl | (simp; done) | (simp [*]; done)), H', ⟨by first | omega | exact Nat.le_refl _⟩, ⟨by (with_reducible repeat (first | refine blk_drewN ?_ _ | refine blk_drew ?_ | refine blk_alloc ?_ _)); exact BK231.out⟩, ⟨by repeat (first | (with_reducible first | exact HI0.out | apply IsS58.alloc | apply IsS58.drewN | apply IsS58.drew | apply IsS58.set_1 | apply IsS58.set_2 | refine IsS58.far ?_ NB0_231.out _) | exact HI0.out)⟩, ⟨by repeat (first | (with_reducible first | exact HK.out | apply KeepBut.set_ | apply keep_drewN | apply keep_drew | apply keep_alloc | refine keep_far ?_ GW231.out _) | exact HK.out)⟩, ⟨by repeat (first | (with_reducible first | exact HB.out | apply bA_ | apply bN_ | apply bD_ | refine bS_ ?_ (IsS58.ge HI0.out) | refine bS_ ?_ GE231.out) | exact HB.out)⟩⟩
    · rw [if_neg c5] at H
      have c5b0 : decide (a1 < 1) = false := decide_eq_false c5
      clear c5
      (first | rw [c5b0] | (simp only [i64_w, i32_w]; rw [c5b0]) | skip)
      replace H := Option.bind_eq_some_iff.mp H
      obtain ⟨⟨t232, t233, t234⟩, A60, H⟩ := H
      replace H : (spec_l15Cond.j0 k a1 t232 s0_0 t233 t234) = some (r1, r2, r3, r4, r5, r6) := H
      have A6 := Aside0.mk A60
      clear A60
      have H' := Aside0.mk H
      clear H
      go_wp2_with (first | (go_at_call 39; (with_reducible refine (spec_l1Once.calls g s0_0 s0_1 s0_2 3 t232 t233 t234 w0 _ ?side1 ?side2 A6.out).mono ?_); (case side1 => repeat (first | (with_reducible first | exact HI0.out | apply IsS58.alloc | apply IsS58.drewN | apply IsS58.drew | apply IsS58.set_1 | apply IsS58.set_2 | refine IsS58.far ?_ NB0_231.out _) | exact HI0.out)); (case side2 => repeat (first | (with_reducible first | exact HB.out | apply bA_ | apply bN_ | apply bD_ | refine bS_ ?_ (IsS58.ge HI0.out) | refine bS_ ?_ GE231.out) | exact HB.out)); rintro e w7 ⟨rfl, hi, hb, hk⟩; have n0_ := Aside0.mk (KeepBut.blk hk (g' := gb231) (o := .cells #[.int .i64 0, .int .i64 0, .int .i64 0, .slice none 0 0] 29 (0, 0)) (pB43_ BK231.out) NB231_0.out (by simp)); have n1_ := Aside0.mk (KeepBut.trans z43_0 hk (.inl rfl)); have n2_ := Aside0.mk (hb); have n3_ := Aside0.mk (hi); clear BK231; clear HK; clear HB; clear HI0; have BK231 := n0_; have HK := n1_; have HB := n2_; have HI0 := n3_; clear n0_ n1_ n2_ n3_; (try clear hb); (try clear hb2); (try clear hk); (try clear hi)))
      go_meet
      case rel => exact ⟨_, (t232), (t233), (t234), (by first | rfl | (simp; done) | (simp [*]; done)), H', ⟨by first | omega | exact Nat.le_refl _⟩, ⟨by (with_reducible repeat (first | refine blk_drewN ?_ _ | refine blk_drew ?_ | refine blk_alloc ?_ _)); exact BK231.out⟩, ⟨by repeat (first | (with_reducible first | exact HI0.out | apply IsS58.alloc | apply IsS58.drewN | apply IsS58.drew | apply IsS58.set_1 | apply IsS58.set_2 | refine IsS58.far ?_ NB0_231.out _) | exact HI0.out)⟩, ⟨by repeat (first | (with_reducible first | exact HK.out | apply KeepBut.set_ | apply keep_drewN | apply keep_drew | apply keep_alloc | refine keep_far ?_ GW231.out _) | exact HK.out)⟩, ⟨by repeat (first | (with_reducible first | exact HB.out | apply bA_ | apply bN_ | apply bD_ | refine bS_ ?_ (IsS58.ge HI0.out) | refine bS_ ?_ GE231.out) | exact HB.out)⟩⟩
  case rest =>
    clear HC3
    try clear p2
    try clear c4
    try clear c5
    try clear c5b0
    obtain ⟨kq, x12_2, x1001_2, x1002_2, rfl, HA, HJ2, BK231, HI0, HK, HB⟩ := hcut
    cases kq with
    | zero => exact absurd HA.out (by simp [spec_l15Cond.j0])
    | succ kj2 =>
      have H := HA.out
      clear HA
      simp only [spec_l15Cond.j0] at H
      by_cases c8 : x12_2 = true
      · subst c8
        have H1 : ((spec_l15Leaf.f kj2 s0_0 x1001_2 x1002_2).bind fun bt235 => (some (bt235.1, bt235.2.1, bt235.2.2.1, bt235.2.2.2.1, bt235.2.2.2.2.1, bt235.2.2.2.2.2))) = some (r1, r2, r3, r4, r5, r6) := by rw [if_pos rfl] at H; exact H
        clear H
        have H := H1
        clear H1
        replace H := Option.bind_eq_some_iff.mp H
        obtain ⟨⟨t235, t236, t237, t238, t241, t242⟩, A90, H⟩ := H
        replace H : (some (t235, t236, t237, t238, t241, t242)) = some (r1, r2, r3, r4, r5, r6) := H
        have A9 := Aside0.mk A90
        clear A90
        simp only [Option.some.injEq, Prod.mk.injEq] at H
        obtain ⟨rfl, rfl, rfl, rfl, rfl, rfl⟩ := H
        go_wp2_with (first | ((with_reducible refine gate_callee (f := 46) rfl ?_); refine goesL_ (some 14) rfl rfl Try.func46 (by kernel_rfl) rfl #[.pointer (some ⟨g, 0, none⟩)] rfl z43_1 ?_; (with_reducible refine (spec_l15Leaf.calls kj2 g s0_0 x1001_2 x1002_2 t235 t236 t237 t238 t241 t242 w0 _ ?side1 ?side2 A9.out).mono ?_); (case side1 => repeat (first | (with_reducible first | exact HI0.out | apply IsS58.alloc | apply IsS58.drewN | apply IsS58.drew | apply IsS58.set_1 | apply IsS58.set_2 | refine IsS58.far ?_ NB0_231.out _) | exact HI0.out)); (case side2 => repeat (first | (with_reducible first | exact HB.out | apply bA_ | apply bN_ | apply bD_ | refine bS_ ?_ (IsS58.ge HI0.out) | refine bS_ ?_ GE231.out) | exact HB.out)); rintro e w10 ⟨v239, rfl, ho0, hi, hb, hk⟩; refine ⟨_, rfl, ?_⟩; have n0_ := Aside0.mk (KeepBut.blk hk (g' := gb231) (o := .cells #[.int .i64 0, .int .i64 0, .int .i64 0, .slice none 0 0] 29 (0, 0)) (pB43_ BK231.out) NB231_0.out (by simp)); have n1_ := Aside0.mk (Kd.S_lower (Kd.S_newB ho0 (g := gb231) (o := .cells #[.int .i64 0, .int .i64 0, .int .i64 0, .slice none 0 0] 29 (0, 0)) (pB43_ BK231.out)) (keep_size (w := w) (g := g) (row := none) z43_0)); have n2_ := Aside0.mk (KeepBut.trans z43_0 hk (.inl rfl)); have n3_ := Aside0.mk (hb); have n4_ := Aside0.mk (hi); clear BK231; clear HK; clear HB; clear HI0; have BK231 := n0_; have HO240 := n1_; have HK := n2_; have HB := n3_; have HI0 := n4_; clear n0_ n1_ n2_ n3_ n4_; (try clear hb); (try clear hb2); (try clear hk); (try clear hi); (try clear ho0); have hnb11 := NB231_0.out; have hnc11 := NB0_231.out; have hcz12_0 : w10.cell? ⟨gb231, 0, none⟩ = some (.int .i64 0) := (bC_ BK231.out 0).trans rfl; have hcz12_1 : w10.cell? ⟨gb231, 1, none⟩ = some (.int .i64 0) := (bC_ BK231.out 1).trans rfl; have hcz12_2 : w10.cell? ⟨gb231, 2, none⟩ = some (.int .i64 0) := (bC_ BK231.out 2).trans rfl; have hcz12_3 : w10.cell? ⟨gb231, 3, none⟩ = some (.slice none 0 0) := (bC_ BK231.out 3).trans rfl; have hfz12_0 := bF_ BK231.out 0; have hfz12_1 := bF_ BK231.out 1; have hfz12_2 := bF_ BK231.out 2; have hfz12_3 := bF_ BK231.out 3; obtain ⟨Ao13, co13, eo13⟩ := Kd.S_slice HO240.out; subst eo13))
        refine bodyPost_ret (results_cell_row rfl _ _ gb231 29 #[.int .i64 t235, .int .i64 t236, .int .i64 t237, .slice Ao13 t238.length co13] (0, 0) _ rfl (by (with_reducible repeat (first | refine blk_drewN ?_ _ | refine blk_drew ?_ | refine blk_alloc ?_ _)); refine blk_put (cs := #[.int .i64 t235, .int .i64 t236, .int .i64 t237, .slice none 0 0]) ?_ 3 _ rfl; (with_reducible repeat (first | refine blk_drewN ?_ _ | refine blk_drew ?_ | refine blk_alloc ?_ _)); refine blk_put (cs := #[.int .i64 t235, .int .i64 t236, .int .i64 0, .slice none 0 0]) ?_ 2 _ rfl; (with_reducible repeat (first | refine blk_drewN ?_ _ | refine blk_drew ?_ | refine blk_alloc ?_ _)); refine blk_put (cs := #[.int .i64 t235, .int .i64 0, .int .i64 0, .slice none 0 0]) ?_ 1 _ rfl; (with_reducible repeat (first | refine blk_drewN ?_ _ | refine blk_drew ?_ | refine blk_alloc ?_ _)); refine blk_put (cs := #[.int .i64 0, .int .i64 0, .int .i64 0, .slice none 0 0]) ?_ 0 _ rfl; (with_reducible repeat (first | refine blk_drewN ?_ _ | refine blk_drew ?_ | refine blk_alloc ?_ _)); exact BK231.out) Try.underlying29 rfl (by kernel_rfl)) rfl ?_
        exact ⟨_, by first | rfl | (simp [errW_none, errW_some] <;> rfl) | (simp [*, errW_none, errW_some] <;> rfl), by (with_reducible repeat (first | apply Kd.S_alloc | apply Kd.S_drewN | apply Kd.S_drew)); exact Kd.S_mono (Kd.S_far (p := ⟨gb231, 3, none⟩) (Kd.S_far (p := ⟨gb231, 2, none⟩) (Kd.S_far (p := ⟨gb231, 1, none⟩) (Kd.S_far (p := ⟨gb231, 0, none⟩) (Kd.S_mono HO240.out (fun k_ hk => (⟨hk, hk.2⟩ : _ ∧ k_ ≠ gb231))) (fun _ hk => hk.2) (.int .i64 t235)) (fun _ hk => hk.2) (.int .i64 t236)) (fun _ hk => hk.2) (.int .i64 t237)) (fun _ hk => hk.2) (.slice Ao13 t238.length co13)) (fun _ hk => trivial), by repeat (first | (with_reducible first | exact HI0.out | apply IsS58.alloc | apply IsS58.drewN | apply IsS58.drew | apply IsS58.set_1 | apply IsS58.set_2 | refine IsS58.far ?_ NB0_231.out _) | exact HI0.out), by repeat (first | (with_reducible first | exact HB.out | apply bA_ | apply bN_ | apply bD_ | refine bS_ ?_ (IsS58.ge HI0.out) | refine bS_ ?_ GE231.out) | exact HB.out), by repeat (first | (with_reducible first | exact HK.out | apply KeepBut.set_ | apply keep_drewN | apply keep_drew | apply keep_alloc | refine keep_far ?_ GW231.out _) | exact HK.out)⟩
      · replace c8 := Bool.eq_false_iff.mpr c8
        subst c8
        have H1 : ((spec_l1Below.f s0_0 x1001_2 x1002_2 5).bind fun bt243 => (if bt243.1 = 0 then ((spec_l15Cond.f kj2 s0_0 bt243.2.1 bt243.2.2 (wrap64 (a1 - 1))).bind fun bt246 => ((spec_CondNot.f kj2 bt246.1 bt246.2.1 bt246.2.2.1 bt246.2.2.2.1).bind fun bt254 => (some (bt254.1, bt254.2.1, bt254.2.2.1, bt254.2.2.2, bt246.2.2.2.2.1, bt246.2.2.2.2.2)))) else (if bt243.1 = 1 then (spec_l15Cond.j1 kj2 a1 (bt243.1 == 1) s0_0 bt243.2.1 bt243.2.2) else (spec_l15Cond.j1 kj2 a1 (bt243.1 == 2) s0_0 bt243.2.1 bt243.2.2)))) = some (r1, r2, r3, r4, r5, r6) := by rw [if_neg (show ¬ (false = true) by decide)] at H; exact H
        clear H
        have H := H1
        clear H1
        replace H := Option.bind_eq_some_iff.mp H
        obtain ⟨⟨t243, t244, t245⟩, A140, H⟩ := H
        replace H : (if t243 = 0 then ((spec_l15Cond.f kj2 s0_0 t244 t245 (wrap64 (a1 - 1))).bind fun bt246 => ((spec_CondNot.f kj2 bt246.1 bt246.2.1 bt246.2.2.1 bt246.2.2.2.1).bind fun bt254 => (some (bt254.1, bt254.2.1, bt254.2.2.1, bt254.2.2.2, bt246.2.2.2.2.1, bt246.2.2.2.2.2)))) else (if t243 = 1 then (spec_l15Cond.j1 kj2 a1 (t243 == 1) s0_0 t244 t245) else (spec_l15Cond.j1 kj2 a1 (t243 == 2) s0_0 t244 t245))) = some (r1, r2, r3, r4, r5, r6) := H
        have A14 := Aside0.mk A140
        clear A140
        by_cases c15 : t243 = 0
        · rw [if_pos c15] at H
          have c15b0 : (t243 == 0) = true := beq_iff_eq.mpr c15
          have c15b1 : (t243 != 0) = false := bne_eq_false_iff_eq.mpr c15
          clear c15
          replace H := Option.bind_eq_some_iff.mp H
          obtain ⟨⟨t246, t247, t248, t249, t252, t253⟩, A160, H⟩ := H
          replace H : ((spec_CondNot.f kj2 t246 t247 t248 t249).bind fun bt254 => (some (bt254.1, bt254.2.1, bt254.2.2.1, bt254.2.2.2, t252, t253))) = some (r1, r2, r3, r4, r5, r6) := H
          have A16 := Aside0.mk A160
          clear A160
          replace H := Option.bind_eq_some_iff.mp H
          obtain ⟨⟨t254, t255, t256, t257⟩, A170, H⟩ := H
          replace H : (some (t254, t255, t256, t257, t252, t253)) = some (r1, r2, r3, r4, r5, r6) := H
          have A17 := Aside0.mk A170
          clear A170
          simp only [Option.some.injEq, Prod.mk.injEq] at H
          obtain ⟨rfl, rfl, rfl, rfl, rfl, rfl⟩ := H
          go_wp2_with (first | ((with_reducible refine gate_callee (f := 44) rfl ?_); refine goesL_ (some 16) rfl rfl Try.func44 (by kernel_rfl) rfl #[.pointer (some ⟨g, 0, none⟩), .int .i64 5] rfl z43_1 ?_; (with_reducible refine (spec_l1Below.calls g s0_0 x1001_2 x1002_2 5 t243 t244 t245 w0 _ ?side1 ?side2 A14.out).mono ?_); (case side1 => repeat (first | (with_reducible first | exact HI0.out | apply IsS58.alloc | apply IsS58.drewN | apply IsS58.drew | apply IsS58.set_1 | apply IsS58.set_2 | refine IsS58.far ?_ NB0_231.out _) | exact HI0.out)); (case side2 => repeat (first | (with_reducible first | exact HB.out | apply bA_ | apply bN_ | apply bD_ | refine bS_ ?_ (IsS58.ge HI0.out) | refine bS_ ?_ GE231.out) | exact HB.out)); rintro e w18 ⟨rfl, hi, hb, hk⟩; refine ⟨_, rfl, ?_⟩; have n0_ := Aside0.mk (KeepBut.blk hk (g' := gb231) (o := .cells #[.int .i64 0, .int .i64 0, .int .i64 0, .slice none 0 0] 29 (0, 0)) (pB43_ BK231.out) NB231_0.out (by simp)); have n1_ := Aside0.mk (KeepBut.trans z43_0 hk (.inl rfl)); have n2_ := Aside0.mk (hb); have n3_ := Aside0.mk (hi); clear BK231; clear HK; clear HB; clear HI0; have BK231 := n0_; have HK := n1_; have HB := n2_; have HI0 := n3_; clear n0_ n1_ n2_ n3_; (try clear hb); (try clear hb2); (try clear hk); (try clear hi)) | ((with_reducible refine gate_callee (f := 43) rfl ?_); refine goesL_ (some 22) rfl rfl Try.func43 (by kernel_rfl) rfl #[.pointer (some ⟨g, 0, none⟩), .int .i64 (wrap64 (a1 - 1))] rfl z43_1 ?_; (with_reducible refine (ih kj2 (by have := HJ2.out; omega) g s0_0 t244 t245 (wrap64 (a1 - 1)) t246 t247 t248 t249 t252 t253 w0 _ ?side1 ?side2 A16.out).mono ?_); (case side1 => repeat (first | (with_reducible first | exact HI0.out | apply IsS58.alloc | apply IsS58.drewN | apply IsS58.drew | apply IsS58.set_1 | apply IsS58.set_2 | refine IsS58.far ?_ NB0_231.out _) | exact HI0.out)); (case side2 => repeat (first | (with_reducible first | exact HB.out | apply bA_ | apply bN_ | apply bD_ | refine bS_ ?_ (IsS58.ge HI0.out) | refine bS_ ?_ GE231.out) | exact HB.out)); rintro e w19 ⟨v250, rfl, ho0, hi, hb, hk⟩; refine ⟨_, rfl, ?_⟩; have n0_ := Aside0.mk (KeepBut.blk hk (g' := gb231) (o := .cells #[.int .i64 0, .int .i64 0, .int .i64 0, .slice none 0 0] 29 (0, 0)) (pB43_ BK231.out) NB231_0.out (by simp)); have n1_ := Aside0.mk (Kd.S_lower (Kd.S_newB ho0 (g := gb231) (o := .cells #[.int .i64 0, .int .i64 0, .int .i64 0, .slice none 0 0] 29 (0, 0)) (pB43_ BK231.out)) (keep_size (w := w) (g := g) (row := none) z43_0)); have n2_ := Aside0.mk (KeepBut.trans z43_0 hk (.inl rfl)); have n3_ := Aside0.mk (hb); have n4_ := Aside0.mk (hi); clear BK231; clear HK; clear HB; clear HI0; have BK231 := n0_; have HO251 := n1_; have HK := n2_; have HB := n3_; have HI0 := n4_; clear n0_ n1_ n2_ n3_ n4_; (try clear hb); (try clear hb2); (try clear hk); (try clear hi); (try clear ho0); obtain ⟨Ao20, co20, eo20⟩ := Kd.S_slice HO251.out; subst eo20) | ((with_reducible refine gate_callee (f := 47) rfl ?_); refine goesL_ (some 23) rfl rfl Try.func47 (by kernel_rfl) rfl #[.agg #[.int .i64 t246, .int .i64 t247, .int .i64 t248, .slice Ao20 t249.length co20]] rfl z43_1 ?_; (with_reducible refine (spec_CondNot.calls kj2 t246 t247 t248 _ _ t249 t254 t255 t256 t257 _ ?side1 ?side2 A17.out).mono ?_); (case side1 => repeat (first | exact (Kd.S_reads' HO251.out).2.2 | (with_reducible refine Kd.C_alloc ?_ _) | (with_reducible refine Kd.C_drewN ?_ _) | (with_reducible refine Kd.C_drew ?_))); (case side2 => exact (Kd.S_reads' HO251.out).2.1); rintro e w21 ⟨v258, rfl, ho0, hb⟩; refine ⟨_, rfl, ?_⟩; have n0_ := Aside0.mk (Kd.S_elder' (by (with_reducible repeat (first | apply Kd.S_alloc | apply Kd.S_drewN | apply Kd.S_drew)); exact HO251.out) (Kd.S_base ho0) hb); have n1_ := Aside0.mk (Kd.S_lower (Kd.S_newB (Kd.S_new' ho0 (Kd.S_lt (by (with_reducible repeat (first | apply Kd.S_alloc | apply Kd.S_drewN | apply Kd.S_drew)); exact HO251.out))) (g := gb231) (o := .cells #[.int .i64 0, .int .i64 0, .int .i64 0, .slice none 0 0] 29 (0, 0)) (pB43_ BK231.out)) (keep_size (w := w) (g := g) (row := none) z43_0)); have n2_ := Aside0.mk (blk_below (g := gb231) (o := .cells #[.int .i64 0, .int .i64 0, .int .i64 0, .slice none 0 0] 29 (0, 0)) (pB43_ BK231.out) hb); have n3_ := Aside0.mk (IsS58.below z43_4 hb); have n4_ := Aside0.mk (KeepBut.trans z43_0 (KeepBut.of_below hb g none) (.inl rfl)); have n5_ := Aside0.mk (below_step z43_5 hb); clear HO251; clear BK231; clear HI0; clear HK; clear HB; have HO251 := n0_; have HO259 := n1_; have BK231 := n2_; have HI0 := n3_; have HK := n4_; have HB := n5_; clear n0_ n1_ n2_ n3_ n4_ n5_; (try clear hb); (try clear hb2); (try clear hk); (try clear hi); (try clear ho0); have hnb22 := NB231_0.out; have hnc22 := NB0_231.out; have hcz23_0 : w21.cell? ⟨gb231, 0, none⟩ = some (.int .i64 0) := (bC_ BK231.out 0).trans rfl; have hcz23_1 : w21.cell? ⟨gb231, 1, none⟩ = some (.int .i64 0) := (bC_ BK231.out 1).trans rfl; have hcz23_2 : w21.cell? ⟨gb231, 2, none⟩ = some (.int .i64 0) := (bC_ BK231.out 2).trans rfl; have hcz23_3 : w21.cell? ⟨gb231, 3, none⟩ = some (.slice none 0 0) := (bC_ BK231.out 3).trans rfl; have hfz23_0 := bF_ BK231.out 0; have hfz23_1 := bF_ BK231.out 1; have hfz23_2 := bF_ BK231.out 2; have hfz23_3 := bF_ BK231.out 3; obtain ⟨Ao24, co24, eo24⟩ := Kd.S_slice HO259.out; subst eo24))
          refine bodyPost_ret (results_cell_row rfl _ _ gb231 29 #[.int .i64 t254, .int .i64 t255, .int .i64 t256, .slice Ao24 t257.length co24] (0, 0) _ rfl (by (with_reducible repeat (first | refine blk_drewN ?_ _ | refine blk_drew ?_ | refine blk_alloc ?_ _)); refine blk_put (cs := #[.int .i64 t254, .int .i64 t255, .int .i64 t256, .slice none 0 0]) ?_ 3 _ rfl; (with_reducible repeat (first | refine blk_drewN ?_ _ | refine blk_drew ?_ | refine blk_alloc ?_ _)); refine blk_put (cs := #[.int .i64 t254, .int .i64 t255, .int .i64 0, .slice none 0 0]) ?_ 2 _ rfl; (with_reducible repeat (first | refine blk_drewN ?_ _ | refine blk_drew ?_ | refine blk_alloc ?_ _)); refine blk_put (cs := #[.int .i64 t254, .int .i64 0, .int .i64 0, .slice none 0 0]) ?_ 1 _ rfl; (with_reducible repeat (first | refine blk_drewN ?_ _ | refine blk_drew ?_ | refine blk_alloc ?_ _)); refine blk_put (cs := #[.int .i64 0, .int .i64 0, .int .i64 0, .slice none 0 0]) ?_ 0 _ rfl; (with_reducible repeat (first | refine blk_drewN ?_ _ | refine blk_drew ?_ | refine blk_alloc ?_ _)); exact BK231.out) Try.underlying29 rfl (by kernel_rfl)) rfl ?_
          exact ⟨_, by first | rfl | (simp [errW_none, errW_some] <;> rfl) | (simp [*, errW_none, errW_some] <;> rfl), by (with_reducible repeat (first | apply Kd.S_alloc | apply Kd.S_drewN | apply Kd.S_drew)); exact Kd.S_mono (Kd.S_far (p := ⟨gb231, 3, none⟩) (Kd.S_far (p := ⟨gb231, 2, none⟩) (Kd.S_far (p := ⟨gb231, 1, none⟩) (Kd.S_far (p := ⟨gb231, 0, none⟩) (Kd.S_mono HO259.out (fun k_ hk => (⟨hk, hk.2⟩ : _ ∧ k_ ≠ gb231))) (fun _ hk => hk.2) (.int .i64 t254)) (fun _ hk => hk.2) (.int .i64 t255)) (fun _ hk => hk.2) (.int .i64 t256)) (fun _ hk => hk.2) (.slice Ao24 t257.length co24)) (fun _ hk => trivial), by repeat (first | (with_reducible first | exact HI0.out | apply IsS58.alloc | apply IsS58.drewN | apply IsS58.drew | apply IsS58.set_1 | apply IsS58.set_2 | refine IsS58.far ?_ NB0_231.out _) | exact HI0.out), by repeat (first | (with_reducible first | exact HB.out | apply bA_ | apply bN_ | apply bD_ | refine bS_ ?_ (IsS58.ge HI0.out) | refine bS_ ?_ GE231.out) | exact HB.out), by repeat (first | (with_reducible first | exact HK.out | apply KeepBut.set_ | apply keep_drewN | apply keep_drew | apply keep_alloc | refine keep_far ?_ GW231.out _) | exact HK.out)⟩
        · rw [if_neg c15] at H
          have c15b0 : (t243 == 0) = false := beq_eq_false_iff_ne.mpr c15
          have c15b1 : (t243 != 0) = true := bne_iff_ne.mpr c15
          have HC25 := Aside0.mk H
          clear H
          go_upto_if 24 with (first | ((with_reducible refine gate_callee (f := 44) rfl ?_); refine goesL_ (some 16) rfl rfl Try.func44 (by kernel_rfl) rfl #[.pointer (some ⟨g, 0, none⟩), .int .i64 5] rfl z43_1 ?_; (with_reducible refine (spec_l1Below.calls g s0_0 x1001_2 x1002_2 5 t243 t244 t245 w0 _ ?side1 ?side2 A14.out).mono ?_); (case side1 => repeat (first | (with_reducible first | exact HI0.out | apply IsS58.alloc | apply IsS58.drewN | apply IsS58.drew | apply IsS58.set_1 | apply IsS58.set_2 | refine IsS58.far ?_ NB0_231.out _) | exact HI0.out)); (case side2 => repeat (first | (with_reducible first | exact HB.out | apply bA_ | apply bN_ | apply bD_ | refine bS_ ?_ (IsS58.ge HI0.out) | refine bS_ ?_ GE231.out) | exact HB.out)); rintro e w26 ⟨rfl, hi, hb, hk⟩; refine ⟨_, rfl, ?_⟩; have n0_ := Aside0.mk (KeepBut.blk hk (g' := gb231) (o := .cells #[.int .i64 0, .int .i64 0, .int .i64 0, .slice none 0 0] 29 (0, 0)) (pB43_ BK231.out) NB231_0.out (by simp)); have n1_ := Aside0.mk (KeepBut.trans z43_0 hk (.inl rfl)); have n2_ := Aside0.mk (hb); have n3_ := Aside0.mk (hi); clear BK231; clear HK; clear HB; clear HI0; have BK231 := n0_; have HK := n1_; have HB := n2_; have HI0 := n3_; clear n0_ n1_ n2_ n3_; (try clear hb); (try clear hb2); (try clear hk); (try clear hi)))
          (try simp only [Act.put, List.setIfInBounds_toArray, List.set_cons_zero, List.set_cons_succ])
          go_cut [24] (fun v24 wc => ∃ (kq : Nat) (x24_24 : Bool), v24 = .bool x24_24 ∧ Aside0 (spec_l15Cond.j1 kq a1 x24_24 s0_0 t244 t245 = some (r1, r2, r3, r4, r5, r6)) ∧ Aside0 (kq ≤ kj2) ∧ Aside0 (wc.heap[gb231]? = some (.cells #[.int .i64 0, .int .i64 0, .int .i64 0, (.slice none 0 0)] 29 (0, 0))) ∧ Aside0 (IsS58 w0 wc g s0_0 t244 t245) ∧ Aside0 (KeepBut w wc g none) ∧ Aside0 (Below w0.heap.size w0 wc))
          case first =>
            have H := HC25.out
            clear HC25
            by_cases c27 : t243 = 1
            · rw [if_pos c27] at H
              have c27b0 : (t243 == 1) = true := beq_iff_eq.mpr c27
              have c27b1 : (t243 != 1) = false := bne_eq_false_iff_eq.mpr c27
              clear c27
              (first | rw [c27b0] | (simp only [i64_w, i32_w]; rw [c27b0]) | skip)
              have H' := Aside0.mk H
              clear H
              go_wp2
              go_meet
              case rel => exact ⟨_, ((t243 == 1)), (by first | rfl | (simp; done) | (simp [*]; done)), H', ⟨by have := HJ2.out; first | omega | exact Nat.le_refl _⟩, ⟨by (with_reducible repeat (first | refine blk_drewN ?_ _ | refine blk_drew ?_ | refine blk_alloc ?_ _)); exact BK231.out⟩, ⟨by repeat (first | (with_reducible first | exact HI0.out | apply IsS58.alloc | apply IsS58.drewN | apply IsS58.drew | apply IsS58.set_1 | apply IsS58.set_2 | refine IsS58.far ?_ NB0_231.out _) | exact HI0.out)⟩, ⟨by repeat (first | (with_reducible first | exact HK.out | apply KeepBut.set_ | apply keep_drewN | apply keep_drew | apply keep_alloc | refine keep_far ?_ GW231.out _) | exact HK.out)⟩, ⟨by repeat (first | (with_reducible first | exact HB.out | apply bA_ | apply bN_ | apply bD_ | refine bS_ ?_ (IsS58.ge HI0.out) | refine bS_ ?_ GE231.out) | exact HB.out)⟩⟩
            · rw [if_neg c27] at H
              have c27b0 : (t243 == 1) = false := beq_eq_false_iff_ne.mpr c27
              have c27b1 : (t243 != 1) = true := bne_iff_ne.mpr c27
              (first | rw [c27b0] | (simp only [i64_w, i32_w]; rw [c27b0]) | skip)
              have H' := Aside0.mk H
              clear H
              go_wp2
              go_meet
              case rel => exact ⟨_, ((t243 == 2)), (by first | rfl | (simp; done) | (simp [*]; done)), H', ⟨by have := HJ2.out; first | omega | exact Nat.le_refl _⟩, ⟨by (with_reducible repeat (first | refine blk_drewN ?_ _ | refine blk_drew ?_ | refine blk_alloc ?_ _)); exact BK231.out⟩, ⟨by repeat (first | (with_reducible first | exact HI0.out | apply IsS58.alloc | apply IsS58.drewN | apply IsS58.drew | apply IsS58.set_1 | apply IsS58.set_2 | refine IsS58.far ?_ NB0_231.out _) | exact HI0.out)⟩, ⟨by repeat (first | (with_reducible first | exact HK.out | apply KeepBut.set_ | apply keep_drewN | apply keep_drew | apply keep_alloc | refine keep_far ?_ GW231.out _) | exact HK.out)⟩, ⟨by repeat (first | (with_reducible first | exact HB.out | apply bA_ | apply bN_ | apply bD_ | refine bS_ ?_ (IsS58.ge HI0.out) | refine bS_ ?_ GE231.out) | exact HB.out)⟩⟩
          case rest =>
            clear HC25
            try clear c1
            try clear c2
            try clear p2
            try clear c4
            try clear c5
            try clear c5b0
            try clear p6
            try clear c8
            try clear c11
            try clear c15
            try clear c15b0
            try clear c15b1
            try clear c22
            try clear c27
            try clear c27b0
            try clear c27b1
            try clear hcz12_0
            try clear hcz12_1
            try clear hcz12_2
            try clear hcz12_3
            try clear hcz23_0
            try clear hcz23_1
            try clear hcz23_2
            try clear hcz23_3
            try clear hfz12_0
            try clear hfz12_1
            try clear hfz12_2
            try clear hfz12_3
            try clear hfz23_0
            try clear hfz23_1
            try clear hfz23_2
            try clear hfz23_3
            try clear p2
            obtain ⟨kq, x24_24, rfl, HA, HJ24, BK231, HI0, HK, HB⟩ := hcut
            cases kq with
            | zero => exact absurd HA.out (by simp [spec_l15Cond.j1])
            | succ kj24 =>
              have H := HA.out
              clear HA
              simp only [spec_l15Cond.j1] at H
              by_cases c28 : x24_24 = true
              · subst c28
                have H1 : ((spec_l15Cond.f kj24 s0_0 t244 t245 (wrap64 (a1 - 1))).bind fun bt260 => ((spec_l15Cond.f kj24 s0_0 bt260.2.2.2.2.1 bt260.2.2.2.2.2 (wrap64 (a1 - 1))).bind fun bt269 => ((spec_CondAnd.f kj24 bt260.1 bt260.2.1 bt260.2.2.1 bt260.2.2.2.1 bt269.1 bt269.2.1 bt269.2.2.1 bt269.2.2.2.1).bind fun bt277 => (some (bt277.1, bt277.2.1, bt277.2.2.1, bt277.2.2.2, bt269.2.2.2.2.1, bt269.2.2.2.2.2))))) = some (r1, r2, r3, r4, r5, r6) := by rw [if_pos rfl] at H; exact H
                clear H
                have H := H1
                clear H1
                replace H := Option.bind_eq_some_iff.mp H
                obtain ⟨⟨t260, t261, t262, t263, t266, t267⟩, A290, H⟩ := H
                replace H : ((spec_l15Cond.f kj24 s0_0 t266 t267 (wrap64 (a1 - 1))).bind fun bt269 => ((spec_CondAnd.f kj24 t260 t261 t262 t263 bt269.1 bt269.2.1 bt269.2.2.1 bt269.2.2.2.1).bind fun bt277 => (some (bt277.1, bt277.2.1, bt277.2.2.1, bt277.2.2.2, bt269.2.2.2.2.1, bt269.2.2.2.2.2)))) = some (r1, r2, r3, r4, r5, r6) := H
                have A29 := Aside0.mk A290
                clear A290
                replace H := Option.bind_eq_some_iff.mp H
                obtain ⟨⟨t269, t270, t271, t272, t275, t276⟩, A300, H⟩ := H
                replace H : ((spec_CondAnd.f kj24 t260 t261 t262 t263 t269 t270 t271 t272).bind fun bt277 => (some (bt277.1, bt277.2.1, bt277.2.2.1, bt277.2.2.2, t275, t276))) = some (r1, r2, r3, r4, r5, r6) := H
                have A30 := Aside0.mk A300
                clear A300
                replace H := Option.bind_eq_some_iff.mp H
                obtain ⟨⟨t277, t278, t279, t280⟩, A310, H⟩ := H
                replace H : (some (t277, t278, t279, t280, t275, t276)) = some (r1, r2, r3, r4, r5, r6) := H
                have A31 := Aside0.mk A310
                clear A310
                simp only [Option.some.injEq, Prod.mk.injEq] at H
                obtain ⟨rfl, rfl, rfl, rfl, rfl, rfl⟩ := H
                try go_wp2_with (first | ((with_reducible refine gate_callee (f := 43) rfl ?_); refine goesL_ (some 30) rfl rfl Try.func43 (by kernel_rfl) rfl #[.pointer (some ⟨g, 0, none⟩), .int .i64 (wrap64 (a1 - 1))] rfl z43_1 ?_; (with_reducible refine (ih kj24 (by have := HJ2.out; have := HJ24.out; omega) g s0_0 t244 t245 (wrap64 (a1 - 1)) t260 t261 t262 t263 t266 t267 w0 _ ?side1 ?side2 A29.out).mono ?_); (case side1 => repeat (first | (with_reducible first | exact HI0.out | apply IsS58.alloc | apply IsS58.drewN | apply IsS58.drew | apply IsS58.set_1 | apply IsS58.set_2 | refine IsS58.far ?_ NB0_231.out _) | exact HI0.out)); (case side2 => repeat (first | (with_reducible first | exact HB.out | apply bA_ | apply bN_ | apply bD_ | refine bS_ ?_ (IsS58.ge HI0.out) | refine bS_ ?_ GE231.out) | exact HB.out)); rintro e w32 ⟨v264, rfl, ho0, hi, hb, hk⟩; refine ⟨_, rfl, ?_⟩; have n0_ := Aside0.mk (KeepBut.blk hk (g' := gb231) (o := .cells #[.int .i64 0, .int .i64 0, .int .i64 0, .slice none 0 0] 29 (0, 0)) (pB43_ BK231.out) NB231_0.out (by simp)); have n1_ := Aside0.mk (Kd.S_lower (Kd.S_newB ho0 (g := gb231) (o := .cells #[.int .i64 0, .int .i64 0, .int .i64 0, .slice none 0 0] 29 (0, 0)) (pB43_ BK231.out)) (keep_size (w := w) (g := g) (row := none) z43_0)); have n2_ := Aside0.mk (KeepBut.trans z43_0 hk (.inl rfl)); have n3_ := Aside0.mk (hb); have n4_ := Aside0.mk (hi); clear BK231; clear HK; clear HB; clear HI0; have BK231 := n0_; have HO265 := n1_; have HK := n2_; have HB := n3_; have HI0 := n4_; clear n0_ n1_ n2_ n3_ n4_; (try clear hb); (try clear hb2); (try clear hk); (try clear hi); (try clear ho0)) | ((with_reducible refine gate_dst (N := 5) rfl ?_); refine box_event ?hg (N := 5) ?hd (cs := #[.int .i64 0, .int .i64 0, .int .i64 0, .slice none 0 0]) (t := 29) ?hr ?_; (case hd => rfl); (case hg => rfl); (case hr => first | (go_simp; done) | (go_simp; rfl)); intro gb268 hg w33 hbox hb; have n0_ := Aside0.mk (Kd.S_below (Kd.S_elderB z43_7 gb268 (Nat.le_of_eq hg.symm)) hb); have n1_ := Aside0.mk (blk_below (g := gb231) (o := .cells #[.int .i64 0, .int .i64 0, .int .i64 0, .slice none 0 0] 29 (0, 0)) (pB43_ BK231.out) hb); have n2_ := Aside0.mk (IsS58.below z43_4 hb); have n3_ := Aside0.mk (KeepBut.trans z43_0 (KeepBut.of_below hb g none) (.inl rfl)); have n4_ := Aside0.mk (below_step z43_5 hb); have n5_ := Aside0.mk (hbox); have n6_ := Aside0.mk ((by rw [hg]; exact (keep_size (w := w) (g := g) (row := none) z43_0) : w.heap.size ≤ gb268)); have n7_ := Aside0.mk ((Nat.le_trans HW0.out (by rw [hg]; exact (keep_size (w := w) (g := g) (row := none) z43_0) : w.heap.size ≤ gb268) : w0.heap.size ≤ gb268)); have n8_ := Aside0.mk ((by rw [hg]; exact Nat.ne_of_lt (blk_lt (g := gb231) (o := .cells #[.int .i64 0, .int .i64 0, .int .i64 0, .slice none 0 0] 29 (0, 0)) (pB43_ BK231.out)) : gb231 ≠ gb268)); have n9_ := Aside0.mk ((by rw [hg]; exact Nat.ne_of_gt (blk_lt (g := gb231) (o := .cells #[.int .i64 0, .int .i64 0, .int .i64 0, .slice none 0 0] 29 (0, 0)) (pB43_ BK231.out)) : gb268 ≠ gb231)); have n10_ := Aside0.mk ((by rw [hg]; exact Nat.ne_of_lt (IsS58.lt (show IsS58 w0 _ g s0_0 t266 t267 from by repeat (first | (with_reducible first | exact HI0.out | apply IsS58.alloc | apply IsS58.drewN | apply IsS58.drew | apply IsS58.set_1 | apply IsS58.set_2 | refine IsS58.far ?_ NB0_231.out _) | exact HI0.out))) : g ≠ gb268)); have n11_ := Aside0.mk ((by rw [hg]; exact Nat.ne_of_gt (IsS58.lt (show IsS58 w0 _ g s0_0 t266 t267 from by repeat (first | (with_reducible first | exact HI0.out | apply IsS58.alloc | apply IsS58.drewN | apply IsS58.drew | apply IsS58.set_1 | apply IsS58.set_2 | refine IsS58.far ?_ NB0_231.out _) | exact HI0.out))) : gb268 ≠ g)); clear HO265; clear BK231; clear HI0; clear HK; clear HB; have HO265 := n0_; have BK231 := n1_; have HI0 := n2_; have HK := n3_; have HB := n4_; have BK268 := n5_; have GW268 := n6_; have GE268 := n7_; have NB231_268 := n8_; have NB268_231 := n9_; have NB0_268 := n10_; have NB268_0 := n11_; clear n0_ n1_ n2_ n3_ n4_ n5_ n6_ n7_ n8_ n9_ n10_ n11_; clear hb hbox hg; have hnb34 := NB268_231.out; have hnc34 := NB231_268.out; have hnb35 := NB268_0.out; have hnc35 := NB0_268.out; have hcz36_0 : w33.cell? ⟨gb268, 0, none⟩ = some (.int .i64 0) := (bC_ BK268.out 0).trans rfl; have hcz36_1 : w33.cell? ⟨gb268, 1, none⟩ = some (.int .i64 0) := (bC_ BK268.out 1).trans rfl; have hcz36_2 : w33.cell? ⟨gb268, 2, none⟩ = some (.int .i64 0) := (bC_ BK268.out 2).trans rfl; have hcz36_3 : w33.cell? ⟨gb268, 3, none⟩ = some (.slice none 0 0) := (bC_ BK268.out 3).trans rfl; have hfz36_0 := bF_ BK268.out 0; have hfz36_1 := bF_ BK268.out 1; have hfz36_2 := bF_ BK268.out 2; have hfz36_3 := bF_ BK268.out 3; obtain ⟨Ao37, co37, eo37⟩ := Kd.S_slice HO265.out; subst eo37))
                have n0_ : Aside0 (Kd.S k29 29 ((((w33.setCell ⟨gb268, 0, none⟩ (.int .i64 t260)).setCell ⟨gb268, 1, none⟩ (.int .i64 t261)).setCell ⟨gb268, 2, none⟩ (.int .i64 t262)).setCell ⟨gb268, 3, none⟩ (.slice Ao37 t263.length co37)) w.heap.size (fun k_ => k_ ≠ gb231 ∧ k_ ≠ gb268) (.slice Ao37 t263.length co37) t263) := ⟨by (with_reducible repeat (first | apply Kd.S_alloc | apply Kd.S_drewN | apply Kd.S_drew)); exact Kd.S_mono (Kd.S_far (p := ⟨gb268, 3, none⟩) (Kd.S_far (p := ⟨gb268, 2, none⟩) (Kd.S_far (p := ⟨gb268, 1, none⟩) (Kd.S_far (p := ⟨gb268, 0, none⟩) (Kd.S_mono HO265.out (fun k_ hk => (⟨hk, hk.2⟩ : _ ∧ k_ ≠ gb268))) (fun _ hk => hk.2) (.int .i64 t260)) (fun _ hk => hk.2) (.int .i64 t261)) (fun _ hk => hk.2) (.int .i64 t262)) (fun _ hk => hk.2) (.slice Ao37 t263.length co37)) (fun _ hk => ⟨hk.1.1.2, hk.1.2⟩)⟩
                have n1_ : Aside0 (((((w33.setCell ⟨gb268, 0, none⟩ (.int .i64 t260)).setCell ⟨gb268, 1, none⟩ (.int .i64 t261)).setCell ⟨gb268, 2, none⟩ (.int .i64 t262)).setCell ⟨gb268, 3, none⟩ (.slice Ao37 t263.length co37)).heap[gb231]? = some (.cells #[.int .i64 0, .int .i64 0, .int .i64 0, .slice none 0 0] 29 (0, 0))) := ⟨by (with_reducible repeat (first | refine blk_drewN ?_ _ | refine blk_drew ?_ | refine blk_alloc ?_ _)); refine blk_far ?_ NB231_268.out _; (with_reducible repeat (first | refine blk_drewN ?_ _ | refine blk_drew ?_ | refine blk_alloc ?_ _)); refine blk_far ?_ NB231_268.out _; (with_reducible repeat (first | refine blk_drewN ?_ _ | refine blk_drew ?_ | refine blk_alloc ?_ _)); refine blk_far ?_ NB231_268.out _; (with_reducible repeat (first | refine blk_drewN ?_ _ | refine blk_drew ?_ | refine blk_alloc ?_ _)); refine blk_far ?_ NB231_268.out _; (with_reducible repeat (first | refine blk_drewN ?_ _ | refine blk_drew ?_ | refine blk_alloc ?_ _)); exact BK231.out⟩
                have n2_ : Aside0 (((((w33.setCell ⟨gb268, 0, none⟩ (.int .i64 t260)).setCell ⟨gb268, 1, none⟩ (.int .i64 t261)).setCell ⟨gb268, 2, none⟩ (.int .i64 t262)).setCell ⟨gb268, 3, none⟩ (.slice Ao37 t263.length co37)).heap[gb268]? = some (.cells #[.int .i64 t260, .int .i64 t261, .int .i64 t262, .slice Ao37 t263.length co37] 29 (0, 0))) := ⟨by (with_reducible repeat (first | refine blk_drewN ?_ _ | refine blk_drew ?_ | refine blk_alloc ?_ _)); refine blk_put (cs := #[.int .i64 t260, .int .i64 t261, .int .i64 t262, .slice none 0 0]) ?_ 3 _ rfl; (with_reducible repeat (first | refine blk_drewN ?_ _ | refine blk_drew ?_ | refine blk_alloc ?_ _)); refine blk_put (cs := #[.int .i64 t260, .int .i64 t261, .int .i64 0, .slice none 0 0]) ?_ 2 _ rfl; (with_reducible repeat (first | refine blk_drewN ?_ _ | refine blk_drew ?_ | refine blk_alloc ?_ _)); refine blk_put (cs := #[.int .i64 t260, .int .i64 0, .int .i64 0, .slice none 0 0]) ?_ 1 _ rfl; (with_reducible repeat (first | refine blk_drewN ?_ _ | refine blk_drew ?_ | refine blk_alloc ?_ _)); refine blk_put (cs := #[.int .i64 0, .int .i64 0, .int .i64 0, .slice none 0 0]) ?_ 0 _ rfl; (with_reducible repeat (first | refine blk_drewN ?_ _ | refine blk_drew ?_ | refine blk_alloc ?_ _)); exact BK268.out⟩
                have n3_ : Aside0 (IsS58 w0 ((((w33.setCell ⟨gb268, 0, none⟩ (.int .i64 t260)).setCell ⟨gb268, 1, none⟩ (.int .i64 t261)).setCell ⟨gb268, 2, none⟩ (.int .i64 t262)).setCell ⟨gb268, 3, none⟩ (.slice Ao37 t263.length co37)) g s0_0 t266 t267) := ⟨by repeat (first | (with_reducible first | exact HI0.out | apply IsS58.alloc | apply IsS58.drewN | apply IsS58.drew | apply IsS58.set_1 | apply IsS58.set_2 | refine IsS58.far ?_ NB0_231.out _ | refine IsS58.far ?_ NB0_268.out _) | exact HI0.out)⟩
                have n4_ : Aside0 (KeepBut w ((((w33.setCell ⟨gb268, 0, none⟩ (.int .i64 t260)).setCell ⟨gb268, 1, none⟩ (.int .i64 t261)).setCell ⟨gb268, 2, none⟩ (.int .i64 t262)).setCell ⟨gb268, 3, none⟩ (.slice Ao37 t263.length co37)) g none) := ⟨by repeat (first | (with_reducible first | exact HK.out | apply KeepBut.set_ | apply keep_drewN | apply keep_drew | apply keep_alloc | refine keep_far ?_ GW231.out _ | refine keep_far ?_ GW268.out _) | exact HK.out)⟩
                have n5_ : Aside0 (Below w0.heap.size w0 ((((w33.setCell ⟨gb268, 0, none⟩ (.int .i64 t260)).setCell ⟨gb268, 1, none⟩ (.int .i64 t261)).setCell ⟨gb268, 2, none⟩ (.int .i64 t262)).setCell ⟨gb268, 3, none⟩ (.slice Ao37 t263.length co37))) := ⟨by repeat (first | (with_reducible first | exact HB.out | apply bA_ | apply bN_ | apply bD_ | refine bS_ ?_ (IsS58.ge HI0.out) | refine bS_ ?_ GE231.out | refine bS_ ?_ GE268.out) | exact HB.out)⟩
                (try clear HO265)
                (try clear BK231)
                (try clear BK268)
                (try clear HI0)
                (try clear HK)
                (try clear HB)
                generalize ((((w33.setCell ⟨gb268, 0, none⟩ (.int .i64 t260)).setCell ⟨gb268, 1, none⟩ (.int .i64 t261)).setCell ⟨gb268, 2, none⟩ (.int .i64 t262)).setCell ⟨gb268, 3, none⟩ (.slice Ao37 t263.length co37)) = w38 at n0_ n1_ n2_ n3_ n4_ n5_ ⊢
                have HO265 := n0_
                have BK231 := n1_
                have BK268 := n2_
                have HI0 := n3_
                have HK := n4_
                have HB := n5_
                clear n0_ n1_ n2_ n3_ n4_ n5_
                have n0_ := Aside0.mk (Kd.S_drew HO265.out)
                have n1_ := Aside0.mk (blk_drew BK231.out)
                have n2_ := Aside0.mk (blk_drew BK268.out)
                have n3_ := Aside0.mk (IsS58.drew HI0.out)
                have n4_ := Aside0.mk (keep_drew HK.out)
                have n5_ := Aside0.mk (bD_ HB.out)
                clear HO265
                clear BK231
                clear BK268
                clear HI0
                clear HK
                clear HB
                have HO265 := n0_
                have BK231 := n1_
                have BK268 := n2_
                have HI0 := n3_
                have HK := n4_
                have HB := n5_
                clear n0_ n1_ n2_ n3_ n4_ n5_
                refine start_ (n := 7) (S := fun w' => w'.cell? ⟨gb268, 0, none⟩ = some (.int .i64 t260) ∧ w'.cell? ⟨gb268, 1, none⟩ = some (.int .i64 t261) ∧ w'.cell? ⟨gb268, 2, none⟩ = some (.int .i64 t262) ∧ w'.cell? ⟨gb268, 3, none⟩ = some (.slice Ao37 t263.length co37)) (ds := []) #[false, false, false, false, false, false, false] (by kernel_rfl) rfl rfl ⟨(bC_ BK268.out 0).trans rfl, (bC_ BK268.out 1).trans rfl, (bC_ BK268.out 2).trans rfl, (bC_ BK268.out 3).trans rfl⟩ (fun hHeld => ?_)
                generalize w38.drew = w39 at HO265 BK231 BK268 HI0 HK HB hHeld ⊢
                refine pure_ (i := 1) (N := some 32) (v := ?_) (a' := ?_) #[false, true, false, false, false, false, false] rfl rfl (by kernel_rfl) (fun _ _ _ h => h) (Or.inl ⟨by rfl, ?_⟩) ?_ ?_
                rotate_left
                · intro w'
                  go_simp
                  with_reducible rfl
                rotate_left
                · simp only [Act.put, List.setIfInBounds_toArray, List.set_cons_zero, List.set_cons_succ, i64_w, i32_w]
                  rfl
                refine pure_ (i := 2) (N := some 33) (v := ?_) (a' := ?_) #[false, true, true, false, false, false, false] rfl rfl (by kernel_rfl) (fun _ _ _ h => h) (Or.inl ⟨by rfl, ?_⟩) ?_ ?_
                rotate_left
                · intro w'
                  go_simp
                  with_reducible rfl
                rotate_left
                · simp only [Act.put, List.setIfInBounds_toArray, List.set_cons_zero, List.set_cons_succ, i64_w, i32_w]
                  rfl
                refine pure_ (i := 3) (N := some 34) (v := ?_) (a' := ?_) #[false, true, true, true, false, false, false] rfl rfl (by kernel_rfl) (fun _ _ _ h => h) (Or.inl ⟨by rfl, ?_⟩) ?_ ?_
                rotate_left
                · intro w'
                  go_simp
                  with_reducible rfl
                rotate_left
                · simp only [Act.put, List.setIfInBounds_toArray, List.set_cons_zero, List.set_cons_succ, i64_w, i32_w]
                  rfl
                refine take_ (i := 0) (N := some 31) (v := ?_) (a' := ?_) #[true, true, true, true, false, false, false] rfl rfl (by kernel_rfl) (fun _ _ _ h => h) (Or.inl ⟨by rfl, ?_⟩) hHeld ?_ ?_
                rotate_left
                · rintro w' ⟨s0, s1, s2, s3⟩
                  go_simp
                  with_reducible rfl
                rotate_left
                · simp only [Act.put, List.setIfInBounds_toArray, List.set_cons_zero, List.set_cons_succ, i64_w, i32_w]
                  rfl
                refine one_ (i := 4) (N := some 35) #[true, true, true, true, true, false, false] rfl rfl (by kernel_rfl) (by decide) (fun K hK => ?_)
                refine goes_ Try.func43 (by kernel_rfl) rfl #[.pointer (some ⟨g, 0, none⟩), .int .i64 (wrap64 (a1 - 1))] (by rfl) rfl rfl z43_1 ?_
                with_reducible refine (ih kj24 (by have := HJ2.out; have := HJ24.out; omega) g s0_0 t266 t267 (wrap64 (a1 - 1)) t269 t270 t271 t272 t275 t276 w0 _ ?side1 ?side2 A30.out).mono ?_
                (case side1 => repeat (first | (with_reducible first | exact HI0.out | apply IsS58.alloc | apply IsS58.drewN | apply IsS58.drew | apply IsS58.set_1 | apply IsS58.set_2 | refine IsS58.far ?_ NB0_231.out _ | refine IsS58.far ?_ NB0_268.out _) | exact HI0.out))
                (case side2 => repeat (first | (with_reducible first | exact HB.out | apply bA_ | apply bN_ | apply bD_ | refine bS_ ?_ (IsS58.ge HI0.out) | refine bS_ ?_ GE231.out | refine bS_ ?_ GE268.out) | exact HB.out))
                rintro e w40 ⟨v273, rfl, ho0, hi, hb, hk⟩
                refine ⟨_, rfl, ?_⟩
                have n0_ := Aside0.mk (KeepBut.blk hk (g' := gb231) (o := .cells #[.int .i64 0, .int .i64 0, .int .i64 0, .slice none 0 0] 29 (0, 0)) (pB43_ BK231.out) NB231_0.out (by simp))
                have n1_ := Aside0.mk (Kd.S_mono (Kd.S_told (Kd.S_oldK (IsS58.apartS (show IsS58 w0 _ g s0_0 t266 t267 from by repeat (first | (with_reducible first | exact HI0.out | apply IsS58.alloc | apply IsS58.drewN | apply IsS58.drew | apply IsS58.set_1 | apply IsS58.set_2 | refine IsS58.far ?_ NB0_231.out _ | refine IsS58.far ?_ NB0_268.out _) | exact HI0.out)) z43_7 (by decide)) hk) (Kd.S_base ho0)) (fun _ h_ => h_.1))
                have n2_ := Aside0.mk (KeepBut.blk hk (g' := gb268) (o := .cells #[.int .i64 t260, .int .i64 t261, .int .i64 t262, .slice Ao37 t263.length co37] 29 (0, 0)) (pB43_ BK268.out) NB268_0.out (by simp))
                have n3_ := Aside0.mk (Kd.S_lower (Kd.S_newB (Kd.S_newB (Kd.S_new' ho0 (Kd.S_lt z43_7)) (g := gb231) (o := .cells #[.int .i64 0, .int .i64 0, .int .i64 0, .slice none 0 0] 29 (0, 0)) (pB43_ BK231.out)) (g := gb268) (o := .cells #[.int .i64 t260, .int .i64 t261, .int .i64 t262, .slice Ao37 t263.length co37] 29 (0, 0)) (pB43_ BK268.out)) (keep_size (w := w) (g := g) (row := none) z43_3))
                have n4_ := Aside0.mk (KeepBut.trans z43_3 hk (.inl rfl))
                have n5_ := Aside0.mk (hb)
                have n6_ := Aside0.mk (hi)
                clear BK231
                clear HO265
                clear BK268
                clear HK
                clear HB
                clear HI0
                have BK231 := n0_
                have HO265 := n1_
                have BK268 := n2_
                have HO274 := n3_
                have HK := n4_
                have HB := n5_
                have HI0 := n6_
                clear n0_ n1_ n2_ n3_ n4_ n5_ n6_
                (try clear hb)
                (try clear hb2)
                (try clear hk)
                (try clear hi)
                (try clear ho0)
                obtain ⟨Ao41, co41, eo41⟩ := Kd.S_slice HO274.out
                (first | subst eo41 | (injection eo41 with f1_ f2_ f3_; have f4_ := f1_.symm; have f5_ := f3_.symm; clear f1_ f2_ f3_; subst f4_; subst f5_))
                refine hK.out _ _ ⟨(bC_ BK268.out 0).trans rfl, (bC_ BK268.out 1).trans rfl, (bC_ BK268.out 2).trans rfl, (bC_ BK268.out 3).trans rfl⟩ (fun hHeld => ?_)
                clear hK K
                refine norm_ (a' := ?_) ?_ ?_
                rotate_left
                · show Act.put _ (some 35) _ = _
                  simp only [Act.put, List.setIfInBounds_toArray, List.set_cons_zero, List.set_cons_succ, i64_w, i32_w]
                  rfl
                refine one_ (i := 5) (N := some 36) #[true, true, true, true, true, true, false] rfl rfl (by kernel_rfl) (by decide) (fun K hK => ?_)
                refine goes_ Try.func48 (by kernel_rfl) rfl #[.agg #[.int .i64 t260, .int .i64 t261, .int .i64 t262, .slice Ao37 t263.length co37], .agg #[.int .i64 t269, .int .i64 t270, .int .i64 t271, .slice Ao41 t272.length co41]] (by rfl) rfl rfl z43_1 ?_
                with_reducible refine (spec_CondAnd.calls kj24 t260 t261 t262 _ _ t263 t269 t270 t271 _ _ t272 t277 t278 t279 t280 _ ?side1 ?side2 ?side3 ?side4 A31.out).mono ?_
                (case side1 => repeat (first | exact (Kd.S_reads' HO265.out).2.2 | (with_reducible refine Kd.C_alloc ?_ _) | (with_reducible refine Kd.C_drewN ?_ _) | (with_reducible refine Kd.C_drew ?_)))
                (case side2 => exact (Kd.S_reads' HO265.out).2.1)
                (case side3 => repeat (first | exact (Kd.S_reads' HO274.out).2.2 | (with_reducible refine Kd.C_alloc ?_ _) | (with_reducible refine Kd.C_drewN ?_ _) | (with_reducible refine Kd.C_drew ?_)))
                (case side4 => exact (Kd.S_reads' HO274.out).2.1)
                rintro e w42 ⟨v281, rfl, ho0, hb⟩
                refine ⟨_, rfl, ?_⟩
                have n0_ := Aside0.mk (Kd.S_elder' z43_7 (Kd.S_base ho0) hb)
                have n1_ := Aside0.mk (Kd.S_elder' (by (with_reducible repeat (first | apply Kd.S_alloc | apply Kd.S_drewN | apply Kd.S_drew)); exact HO274.out) (Kd.S_base ho0) hb)
                have n2_ := Aside0.mk (Kd.S_lower (Kd.S_newB (Kd.S_newB (Kd.S_new' (Kd.S_new' ho0 (Kd.S_lt z43_7)) (Kd.S_lt (by (with_reducible repeat (first | apply Kd.S_alloc | apply Kd.S_drewN | apply Kd.S_drew)); exact HO274.out))) (g := gb231) (o := .cells #[.int .i64 0, .int .i64 0, .int .i64 0, .slice none 0 0] 29 (0, 0)) (pB43_ BK231.out)) (g := gb268) (o := .cells #[.int .i64 t260, .int .i64 t261, .int .i64 t262, .slice Ao37 t263.length co37] 29 (0, 0)) (pB43_ BK268.out)) (keep_size (w := w) (g := g) (row := none) z43_3))
                have n3_ := Aside0.mk (blk_below (g := gb231) (o := .cells #[.int .i64 0, .int .i64 0, .int .i64 0, .slice none 0 0] 29 (0, 0)) (pB43_ BK231.out) hb)
                have n4_ := Aside0.mk (IsS58.below (by repeat (first | (with_reducible first | exact HI0.out | apply IsS58.alloc | apply IsS58.drewN | apply IsS58.drew | apply IsS58.set_1 | apply IsS58.set_2 | refine IsS58.far ?_ NB0_231.out _ | refine IsS58.far ?_ NB0_268.out _) | exact HI0.out)) hb)
                have n5_ := Aside0.mk (blk_below (g := gb268) (o := .cells #[.int .i64 t260, .int .i64 t261, .int .i64 t262, .slice Ao37 t263.length co37] 29 (0, 0)) (pB43_ BK268.out) hb)
                have n6_ := Aside0.mk (KeepBut.trans z43_3 (KeepBut.of_below hb g none) (.inl rfl))
                have n7_ := Aside0.mk (below_step (by repeat (first | (with_reducible first | exact HB.out | apply bA_ | apply bN_ | apply bD_ | refine bS_ ?_ (IsS58.ge HI0.out) | refine bS_ ?_ GE231.out | refine bS_ ?_ GE268.out) | exact HB.out)) hb)
                clear HO265
                clear HO274
                clear BK231
                clear HI0
                clear BK268
                clear HK
                clear HB
                have HO265 := n0_
                have HO274 := n1_
                have HO282 := n2_
                have BK231 := n3_
                have HI0 := n4_
                have BK268 := n5_
                have HK := n6_
                have HB := n7_
                clear n0_ n1_ n2_ n3_ n4_ n5_ n6_ n7_
                (try clear hb)
                (try clear hb2)
                (try clear hk)
                (try clear hi)
                (try clear ho0)
                obtain ⟨Ao46, co46, eo46⟩ := Kd.S_slice HO282.out
                (first | subst eo46 | (injection eo46 with f1_ f2_ f3_; have f4_ := f1_.symm; have f5_ := f3_.symm; clear f1_ f2_ f3_; subst f4_; subst f5_))
                refine hK.out _ _ ⟨(bC_ BK268.out 0).trans rfl, (bC_ BK268.out 1).trans rfl, (bC_ BK268.out 2).trans rfl, (bC_ BK268.out 3).trans rfl⟩ (fun hHeld => ?_)
                clear hK K
                refine norm_ (a' := ?_) ?_ ?_
                rotate_left
                · show Act.put _ (some 36) _ = _
                  simp only [Act.put, List.setIfInBounds_toArray, List.set_cons_zero, List.set_cons_succ, i64_w, i32_w]
                  rfl
                refine one_ (i := 6) (N := none) #[true, true, true, true, true, true, true] rfl rfl (by kernel_rfl) (by decide) (fun K hK => ?_)
                have hs43 : w42.cell? ⟨gb231, 0, none⟩ = some (.int .i64 0) := (bC_ BK231.out 0).trans rfl
                have hfs43 := bF_ BK231.out 0
                have hns43_1 := NB268_231.out
                have hms43_1 := NB231_268.out
                have hs44 : w42.cell? ⟨gb231, 1, none⟩ = some (.int .i64 0) := (bC_ BK231.out 1).trans rfl
                have hfs44 := bF_ BK231.out 1
                have hns44_1 := NB268_231.out
                have hms44_1 := NB231_268.out
                have hs45 : w42.cell? ⟨gb231, 2, none⟩ = some (.int .i64 0) := (bC_ BK231.out 2).trans rfl
                have hfs45 := bF_ BK231.out 2
                have hns45_1 := NB268_231.out
                have hms45_1 := NB231_268.out
                have hs47 : w42.cell? ⟨gb231, 3, none⟩ = some (.slice none 0 0) := (bC_ BK231.out 3).trans rfl
                have hfs47 := bF_ BK231.out 3
                have hns47_1 := NB268_231.out
                have hms47_1 := NB231_268.out
                refine skip_ (w1 := ?_) (by rfl) rfl ?_ ?_
                rotate_left
                · go_simp
                  rfl
                refine hK.out _ _ ⟨((cell_far (p := ⟨gb231, _, none⟩) NB268_231.out _).trans (((cell_far (p := ⟨gb231, _, none⟩) NB268_231.out _).trans (((cell_far (p := ⟨gb231, _, none⟩) NB268_231.out _).trans (((cell_far (p := ⟨gb231, _, none⟩) NB268_231.out _).trans (hHeld.1)))))))), ((cell_far (p := ⟨gb231, _, none⟩) NB268_231.out _).trans (((cell_far (p := ⟨gb231, _, none⟩) NB268_231.out _).trans (((cell_far (p := ⟨gb231, _, none⟩) NB268_231.out _).trans (((cell_far (p := ⟨gb231, _, none⟩) NB268_231.out _).trans (hHeld.2.1)))))))), ((cell_far (p := ⟨gb231, _, none⟩) NB268_231.out _).trans (((cell_far (p := ⟨gb231, _, none⟩) NB268_231.out _).trans (((cell_far (p := ⟨gb231, _, none⟩) NB268_231.out _).trans (((cell_far (p := ⟨gb231, _, none⟩) NB268_231.out _).trans (hHeld.2.2.1)))))))), ((cell_far (p := ⟨gb231, _, none⟩) NB268_231.out _).trans (((cell_far (p := ⟨gb231, _, none⟩) NB268_231.out _).trans (((cell_far (p := ⟨gb231, _, none⟩) NB268_231.out _).trans (((cell_far (p := ⟨gb231, _, none⟩) NB268_231.out _).trans (hHeld.2.2.2))))))))⟩ (fun hHeld => ?_)
                clear hK K
                refine done_ (by kernel_rfl) ?_
                try go_wp2
                refine bodyPost_ret (results_cell_row rfl _ _ gb231 29 #[.int .i64 t277, .int .i64 t278, .int .i64 t279, .slice Ao46 t280.length co46] (0, 0) _ rfl (by (with_reducible repeat (first | refine blk_drewN ?_ _ | refine blk_drew ?_ | refine blk_alloc ?_ _)); refine blk_put (cs := #[.int .i64 t277, .int .i64 t278, .int .i64 t279, .slice none 0 0]) ?_ 3 _ rfl; (with_reducible repeat (first | refine blk_drewN ?_ _ | refine blk_drew ?_ | refine blk_alloc ?_ _)); refine blk_put (cs := #[.int .i64 t277, .int .i64 t278, .int .i64 0, .slice none 0 0]) ?_ 2 _ rfl; (with_reducible repeat (first | refine blk_drewN ?_ _ | refine blk_drew ?_ | refine blk_alloc ?_ _)); refine blk_put (cs := #[.int .i64 t277, .int .i64 0, .int .i64 0, .slice none 0 0]) ?_ 1 _ rfl; (with_reducible repeat (first | refine blk_drewN ?_ _ | refine blk_drew ?_ | refine blk_alloc ?_ _)); refine blk_put (cs := #[.int .i64 0, .int .i64 0, .int .i64 0, .slice none 0 0]) ?_ 0 _ rfl; (with_reducible repeat (first | refine blk_drewN ?_ _ | refine blk_drew ?_ | refine blk_alloc ?_ _)); exact BK231.out) Try.underlying29 rfl (by kernel_rfl)) rfl ?_
                exact ⟨_, by first | rfl | (simp [errW_none, errW_some] <;> rfl) | (simp [*, errW_none, errW_some] <;> rfl), by (with_reducible repeat (first | apply Kd.S_alloc | apply Kd.S_drewN | apply Kd.S_drew)); exact Kd.S_mono (Kd.S_far (p := ⟨gb231, 3, none⟩) (Kd.S_far (p := ⟨gb231, 2, none⟩) (Kd.S_far (p := ⟨gb231, 1, none⟩) (Kd.S_far (p := ⟨gb231, 0, none⟩) (Kd.S_mono HO282.out (fun k_ hk => (⟨hk, hk.1.2⟩ : _ ∧ k_ ≠ gb231))) (fun _ hk => hk.2) (.int .i64 t277)) (fun _ hk => hk.2) (.int .i64 t278)) (fun _ hk => hk.2) (.int .i64 t279)) (fun _ hk => hk.2) (.slice Ao46 t280.length co46)) (fun _ hk => trivial), by repeat (first | (with_reducible first | exact HI0.out | apply IsS58.alloc | apply IsS58.drewN | apply IsS58.drew | apply IsS58.set_1 | apply IsS58.set_2 | refine IsS58.far ?_ NB0_231.out _ | refine IsS58.far ?_ NB0_268.out _) | exact HI0.out), by repeat (first | (with_reducible first | exact HB.out | apply bA_ | apply bN_ | apply bD_ | refine bS_ ?_ (IsS58.ge HI0.out) | refine bS_ ?_ GE231.out | refine bS_ ?_ GE268.out) | exact HB.out), by repeat (first | (with_reducible first | exact HK.out | apply KeepBut.set_ | apply keep_drewN | apply keep_drew | apply keep_alloc | refine keep_far ?_ GW231.out _ | refine keep_far ?_ GW268.out _) | exact HK.out)⟩
              · replace c28 := Bool.eq_false_iff.mpr c28
                subst c28
                have H1 : ((spec_l15Cond.f kj24 s0_0 t244 t245 (wrap64 (a1 - 1))).bind fun bt283 => ((spec_l15Cond.f kj24 s0_0 bt283.2.2.2.2.1 bt283.2.2.2.2.2 (wrap64 (a1 - 1))).bind fun bt292 => ((spec_CondOr.f kj24 bt283.1 bt283.2.1 bt283.2.2.1 bt283.2.2.2.1 bt292.1 bt292.2.1 bt292.2.2.1 bt292.2.2.2.1).bind fun bt300 => (some (bt300.1, bt300.2.1, bt300.2.2.1, bt300.2.2.2, bt292.2.2.2.2.1, bt292.2.2.2.2.2))))) = some (r1, r2, r3, r4, r5, r6) := by rw [if_neg (show ¬ (false = true) by decide)] at H; exact H
                clear H
                have H := H1
                clear H1
                replace H := Option.bind_eq_some_iff.mp H
                obtain ⟨⟨t283, t284, t285, t286, t289, t290⟩, A480, H⟩ := H
                replace H : ((spec_l15Cond.f kj24 s0_0 t289 t290 (wrap64 (a1 - 1))).bind fun bt292 => ((spec_CondOr.f kj24 t283 t284 t285 t286 bt292.1 bt292.2.1 bt292.2.2.1 bt292.2.2.2.1).bind fun bt300 => (some (bt300.1, bt300.2.1, bt300.2.2.1, bt300.2.2.2, bt292.2.2.2.2.1, bt292.2.2.2.2.2)))) = some (r1, r2, r3, r4, r5, r6) := H
                have A48 := Aside0.mk A480
                clear A480
                replace H := Option.bind_eq_some_iff.mp H
                obtain ⟨⟨t292, t293, t294, t295, t298, t299⟩, A490, H⟩ := H
                replace H : ((spec_CondOr.f kj24 t283 t284 t285 t286 t292 t293 t294 t295).bind fun bt300 => (some (bt300.1, bt300.2.1, bt300.2.2.1, bt300.2.2.2, t298, t299))) = some (r1, r2, r3, r4, r5, r6) := H
                have A49 := Aside0.mk A490
                clear A490
                replace H := Option.bind_eq_some_iff.mp H
                obtain ⟨⟨t300, t301, t302, t303⟩, A500, H⟩ := H
                replace H : (some (t300, t301, t302, t303, t298, t299)) = some (r1, r2, r3, r4, r5, r6) := H
                have A50 := Aside0.mk A500
                clear A500
                simp only [Option.some.injEq, Prod.mk.injEq] at H
                obtain ⟨rfl, rfl, rfl, rfl, rfl, rfl⟩ := H
                try go_wp2_with (first | ((with_reducible refine gate_callee (f := 43) rfl ?_); refine goesL_ (some 40) rfl rfl Try.func43 (by kernel_rfl) rfl #[.pointer (some ⟨g, 0, none⟩), .int .i64 (wrap64 (a1 - 1))] rfl z43_1 ?_; (with_reducible refine (ih kj24 (by have := HJ2.out; have := HJ24.out; omega) g s0_0 t244 t245 (wrap64 (a1 - 1)) t283 t284 t285 t286 t289 t290 w0 _ ?side1 ?side2 A48.out).mono ?_); (case side1 => repeat (first | (with_reducible first | exact HI0.out | apply IsS58.alloc | apply IsS58.drewN | apply IsS58.drew | apply IsS58.set_1 | apply IsS58.set_2 | refine IsS58.far ?_ NB0_231.out _) | exact HI0.out)); (case side2 => repeat (first | (with_reducible first | exact HB.out | apply bA_ | apply bN_ | apply bD_ | refine bS_ ?_ (IsS58.ge HI0.out) | refine bS_ ?_ GE231.out) | exact HB.out)); rintro e w51 ⟨v287, rfl, ho0, hi, hb, hk⟩; refine ⟨_, rfl, ?_⟩; have n0_ := Aside0.mk (KeepBut.blk hk (g' := gb231) (o := .cells #[.int .i64 0, .int .i64 0, .int .i64 0, .slice none 0 0] 29 (0, 0)) (pB43_ BK231.out) NB231_0.out (by simp)); have n1_ := Aside0.mk (Kd.S_lower (Kd.S_newB ho0 (g := gb231) (o := .cells #[.int .i64 0, .int .i64 0, .int .i64 0, .slice none 0 0] 29 (0, 0)) (pB43_ BK231.out)) (keep_size (w := w) (g := g) (row := none) z43_0)); have n2_ := Aside0.mk (KeepBut.trans z43_0 hk (.inl rfl)); have n3_ := Aside0.mk (hb); have n4_ := Aside0.mk (hi); clear BK231; clear HK; clear HB; clear HI0; have BK231 := n0_; have HO288 := n1_; have HK := n2_; have HB := n3_; have HI0 := n4_; clear n0_ n1_ n2_ n3_ n4_; (try clear hb); (try clear hb2); (try clear hk); (try clear hi); (try clear ho0)) | ((with_reducible refine gate_dst (N := 6) rfl ?_); refine box_event ?hg (N := 6) ?hd (cs := #[.int .i64 0, .int .i64 0, .int .i64 0, .slice none 0 0]) (t := 29) ?hr ?_; (case hd => rfl); (case hg => rfl); (case hr => first | (go_simp; done) | (go_simp; rfl)); intro gb291 hg w52 hbox hb; have n0_ := Aside0.mk (Kd.S_below (Kd.S_elderB z43_6 gb291 (Nat.le_of_eq hg.symm)) hb); have n1_ := Aside0.mk (blk_below (g := gb231) (o := .cells #[.int .i64 0, .int .i64 0, .int .i64 0, .slice none 0 0] 29 (0, 0)) (pB43_ BK231.out) hb); have n2_ := Aside0.mk (IsS58.below z43_4 hb); have n3_ := Aside0.mk (KeepBut.trans z43_0 (KeepBut.of_below hb g none) (.inl rfl)); have n4_ := Aside0.mk (below_step z43_5 hb); have n5_ := Aside0.mk (hbox); have n6_ := Aside0.mk ((by rw [hg]; exact (keep_size (w := w) (g := g) (row := none) z43_0) : w.heap.size ≤ gb291)); have n7_ := Aside0.mk ((Nat.le_trans HW0.out (by rw [hg]; exact (keep_size (w := w) (g := g) (row := none) z43_0) : w.heap.size ≤ gb291) : w0.heap.size ≤ gb291)); have n8_ := Aside0.mk ((by rw [hg]; exact Nat.ne_of_lt (blk_lt (g := gb231) (o := .cells #[.int .i64 0, .int .i64 0, .int .i64 0, .slice none 0 0] 29 (0, 0)) (pB43_ BK231.out)) : gb231 ≠ gb291)); have n9_ := Aside0.mk ((by rw [hg]; exact Nat.ne_of_gt (blk_lt (g := gb231) (o := .cells #[.int .i64 0, .int .i64 0, .int .i64 0, .slice none 0 0] 29 (0, 0)) (pB43_ BK231.out)) : gb291 ≠ gb231)); have n10_ := Aside0.mk ((by rw [hg]; exact Nat.ne_of_lt (IsS58.lt (show IsS58 w0 _ g s0_0 t289 t290 from by repeat (first | (with_reducible first | exact HI0.out | apply IsS58.alloc | apply IsS58.drewN | apply IsS58.drew | apply IsS58.set_1 | apply IsS58.set_2 | refine IsS58.far ?_ NB0_231.out _) | exact HI0.out))) : g ≠ gb291)); have n11_ := Aside0.mk ((by rw [hg]; exact Nat.ne_of_gt (IsS58.lt (show IsS58 w0 _ g s0_0 t289 t290 from by repeat (first | (with_reducible first | exact HI0.out | apply IsS58.alloc | apply IsS58.drewN | apply IsS58.drew | apply IsS58.set_1 | apply IsS58.set_2 | refine IsS58.far ?_ NB0_231.out _) | exact HI0.out))) : gb291 ≠ g)); clear HO288; clear BK231; clear HI0; clear HK; clear HB; have HO288 := n0_; have BK231 := n1_; have HI0 := n2_; have HK := n3_; have HB := n4_; have BK291 := n5_; have GW291 := n6_; have GE291 := n7_; have NB231_291 := n8_; have NB291_231 := n9_; have NB0_291 := n10_; have NB291_0 := n11_; clear n0_ n1_ n2_ n3_ n4_ n5_ n6_ n7_ n8_ n9_ n10_ n11_; clear hb hbox hg; have hnb53 := NB291_231.out; have hnc53 := NB231_291.out; have hnb54 := NB291_0.out; have hnc54 := NB0_291.out; have hcz55_0 : w52.cell? ⟨gb291, 0, none⟩ = some (.int .i64 0) := (bC_ BK291.out 0).trans rfl; have hcz55_1 : w52.cell? ⟨gb291, 1, none⟩ = some (.int .i64 0) := (bC_ BK291.out 1).trans rfl; have hcz55_2 : w52.cell? ⟨gb291, 2, none⟩ = some (.int .i64 0) := (bC_ BK291.out 2).trans rfl; have hcz55_3 : w52.cell? ⟨gb291, 3, none⟩ = some (.slice none 0 0) := (bC_ BK291.out 3).trans rfl; have hfz55_0 := bF_ BK291.out 0; have hfz55_1 := bF_ BK291.out 1; have hfz55_2 := bF_ BK291.out 2; have hfz55_3 := bF_ BK291.out 3; obtain ⟨Ao56, co56, eo56⟩ := Kd.S_slice HO288.out; subst eo56))
                have n0_ : Aside0 (Kd.S k29 29 ((((w52.setCell ⟨gb291, 0, none⟩ (.int .i64 t283)).setCell ⟨gb291, 1, none⟩ (.int .i64 t284)).setCell ⟨gb291, 2, none⟩ (.int .i64 t285)).setCell ⟨gb291, 3, none⟩ (.slice Ao56 t286.length co56)) w.heap.size (fun k_ => k_ ≠ gb231 ∧ k_ ≠ gb291) (.slice Ao56 t286.length co56) t286) := ⟨by (with_reducible repeat (first | apply Kd.S_alloc | apply Kd.S_drewN | apply Kd.S_drew)); exact Kd.S_mono (Kd.S_far (p := ⟨gb291, 3, none⟩) (Kd.S_far (p := ⟨gb291, 2, none⟩) (Kd.S_far (p := ⟨gb291, 1, none⟩) (Kd.S_far (p := ⟨gb291, 0, none⟩) (Kd.S_mono HO288.out (fun k_ hk => (⟨hk, hk.2⟩ : _ ∧ k_ ≠ gb291))) (fun _ hk => hk.2) (.int .i64 t283)) (fun _ hk => hk.2) (.int .i64 t284)) (fun _ hk => hk.2) (.int .i64 t285)) (fun _ hk => hk.2) (.slice Ao56 t286.length co56)) (fun _ hk => ⟨hk.1.1.2, hk.1.2⟩)⟩
                have n1_ : Aside0 (((((w52.setCell ⟨gb291, 0, none⟩ (.int .i64 t283)).setCell ⟨gb291, 1, none⟩ (.int .i64 t284)).setCell ⟨gb291, 2, none⟩ (.int .i64 t285)).setCell ⟨gb291, 3, none⟩ (.slice Ao56 t286.length co56)).heap[gb231]? = some (.cells #[.int .i64 0, .int .i64 0, .int .i64 0, .slice none 0 0] 29 (0, 0))) := ⟨by (with_reducible repeat (first | refine blk_drewN ?_ _ | refine blk_drew ?_ | refine blk_alloc ?_ _)); refine blk_far ?_ NB231_291.out _; (with_reducible repeat (first | refine blk_drewN ?_ _ | refine blk_drew ?_ | refine blk_alloc ?_ _)); refine blk_far ?_ NB231_291.out _; (with_reducible repeat (first | refine blk_drewN ?_ _ | refine blk_drew ?_ | refine blk_alloc ?_ _)); refine blk_far ?_ NB231_291.out _; (with_reducible repeat (first | refine blk_drewN ?_ _ | refine blk_drew ?_ | refine blk_alloc ?_ _)); refine blk_far ?_ NB231_291.out _; (with_reducible repeat (first | refine blk_drewN ?_ _ | refine blk_drew ?_ | refine blk_alloc ?_ _)); exact BK231.out⟩
                have n2_ : Aside0 (((((w52.setCell ⟨gb291, 0, none⟩ (.int .i64 t283)).setCell ⟨gb291, 1, none⟩ (.int .i64 t284)).setCell ⟨gb291, 2, none⟩ (.int .i64 t285)).setCell ⟨gb291, 3, none⟩ (.slice Ao56 t286.length co56)).heap[gb291]? = some (.cells #[.int .i64 t283, .int .i64 t284, .int .i64 t285, .slice Ao56 t286.length co56] 29 (0, 0))) := ⟨by (with_reducible repeat (first | refine blk_drewN ?_ _ | refine blk_drew ?_ | refine blk_alloc ?_ _)); refine blk_put (cs := #[.int .i64 t283, .int .i64 t284, .int .i64 t285, .slice none 0 0]) ?_ 3 _ rfl; (with_reducible repeat (first | refine blk_drewN ?_ _ | refine blk_drew ?_ | refine blk_alloc ?_ _)); refine blk_put (cs := #[.int .i64 t283, .int .i64 t284, .int .i64 0, .slice none 0 0]) ?_ 2 _ rfl; (with_reducible repeat (first | refine blk_drewN ?_ _ | refine blk_drew ?_ | refine blk_alloc ?_ _)); refine blk_put (cs := #[.int .i64 t283, .int .i64 0, .int .i64 0, .slice none 0 0]) ?_ 1 _ rfl; (with_reducible repeat (first | refine blk_drewN ?_ _ | refine blk_drew ?_ | refine blk_alloc ?_ _)); refine blk_put (cs := #[.int .i64 0, .int .i64 0, .int .i64 0, .slice none 0 0]) ?_ 0 _ rfl; (with_reducible repeat (first | refine blk_drewN ?_ _ | refine blk_drew ?_ | refine blk_alloc ?_ _)); exact BK291.out⟩
                have n3_ : Aside0 (IsS58 w0 ((((w52.setCell ⟨gb291, 0, none⟩ (.int .i64 t283)).setCell ⟨gb291, 1, none⟩ (.int .i64 t284)).setCell ⟨gb291, 2, none⟩ (.int .i64 t285)).setCell ⟨gb291, 3, none⟩ (.slice Ao56 t286.length co56)) g s0_0 t289 t290) := ⟨by repeat (first | (with_reducible first | exact HI0.out | apply IsS58.alloc | apply IsS58.drewN | apply IsS58.drew | apply IsS58.set_1 | apply IsS58.set_2 | refine IsS58.far ?_ NB0_231.out _ | refine IsS58.far ?_ NB0_291.out _) | exact HI0.out)⟩
                have n4_ : Aside0 (KeepBut w ((((w52.setCell ⟨gb291, 0, none⟩ (.int .i64 t283)).setCell ⟨gb291, 1, none⟩ (.int .i64 t284)).setCell ⟨gb291, 2, none⟩ (.int .i64 t285)).setCell ⟨gb291, 3, none⟩ (.slice Ao56 t286.length co56)) g none) := ⟨by repeat (first | (with_reducible first | exact HK.out | apply KeepBut.set_ | apply keep_drewN | apply keep_drew | apply keep_alloc | refine keep_far ?_ GW231.out _ | refine keep_far ?_ GW291.out _) | exact HK.out)⟩
                have n5_ : Aside0 (Below w0.heap.size w0 ((((w52.setCell ⟨gb291, 0, none⟩ (.int .i64 t283)).setCell ⟨gb291, 1, none⟩ (.int .i64 t284)).setCell ⟨gb291, 2, none⟩ (.int .i64 t285)).setCell ⟨gb291, 3, none⟩ (.slice Ao56 t286.length co56))) := ⟨by repeat (first | (with_reducible first | exact HB.out | apply bA_ | apply bN_ | apply bD_ | refine bS_ ?_ (IsS58.ge HI0.out) | refine bS_ ?_ GE231.out | refine bS_ ?_ GE291.out) | exact HB.out)⟩
                (try clear HO288)
                (try clear BK231)
                (try clear BK291)
                (try clear HI0)
                (try clear HK)
                (try clear HB)
                generalize ((((w52.setCell ⟨gb291, 0, none⟩ (.int .i64 t283)).setCell ⟨gb291, 1, none⟩ (.int .i64 t284)).setCell ⟨gb291, 2, none⟩ (.int .i64 t285)).setCell ⟨gb291, 3, none⟩ (.slice Ao56 t286.length co56)) = w57 at n0_ n1_ n2_ n3_ n4_ n5_ ⊢
                have HO288 := n0_
                have BK231 := n1_
                have BK291 := n2_
                have HI0 := n3_
                have HK := n4_
                have HB := n5_
                clear n0_ n1_ n2_ n3_ n4_ n5_
                have n0_ := Aside0.mk (Kd.S_drew HO288.out)
                have n1_ := Aside0.mk (blk_drew BK231.out)
                have n2_ := Aside0.mk (blk_drew BK291.out)
                have n3_ := Aside0.mk (IsS58.drew HI0.out)
                have n4_ := Aside0.mk (keep_drew HK.out)
                have n5_ := Aside0.mk (bD_ HB.out)
                clear HO288
                clear BK231
                clear BK291
                clear HI0
                clear HK
                clear HB
                have HO288 := n0_
                have BK231 := n1_
                have BK291 := n2_
                have HI0 := n3_
                have HK := n4_
                have HB := n5_
                clear n0_ n1_ n2_ n3_ n4_ n5_
                refine start_ (n := 7) (S := fun w' => w'.cell? ⟨gb291, 0, none⟩ = some (.int .i64 t283) ∧ w'.cell? ⟨gb291, 1, none⟩ = some (.int .i64 t284) ∧ w'.cell? ⟨gb291, 2, none⟩ = some (.int .i64 t285) ∧ w'.cell? ⟨gb291, 3, none⟩ = some (.slice Ao56 t286.length co56)) (ds := []) #[false, false, false, false, false, false, false] (by kernel_rfl) rfl rfl ⟨(bC_ BK291.out 0).trans rfl, (bC_ BK291.out 1).trans rfl, (bC_ BK291.out 2).trans rfl, (bC_ BK291.out 3).trans rfl⟩ (fun hHeld => ?_)
                generalize w57.drew = w58 at HO288 BK231 BK291 HI0 HK HB hHeld ⊢
                refine pure_ (i := 1) (N := some 42) (v := ?_) (a' := ?_) #[false, true, false, false, false, false, false] rfl rfl (by kernel_rfl) (fun _ _ _ h => h) (Or.inl ⟨by rfl, ?_⟩) ?_ ?_
                rotate_left
                · intro w'
                  go_simp
                  with_reducible rfl
                rotate_left
                · simp only [Act.put, List.setIfInBounds_toArray, List.set_cons_zero, List.set_cons_succ, i64_w, i32_w]
                  rfl
                refine pure_ (i := 2) (N := some 43) (v := ?_) (a' := ?_) #[false, true, true, false, false, false, false] rfl rfl (by kernel_rfl) (fun _ _ _ h => h) (Or.inl ⟨by rfl, ?_⟩) ?_ ?_
                rotate_left
                · intro w'
                  go_simp
                  with_reducible rfl
                rotate_left
                · simp only [Act.put, List.setIfInBounds_toArray, List.set_cons_zero, List.set_cons_succ, i64_w, i32_w]
                  rfl
                refine pure_ (i := 3) (N := some 44) (v := ?_) (a' := ?_) #[false, true, true, true, false, false, false] rfl rfl (by kernel_rfl) (fun _ _ _ h => h) (Or.inl ⟨by rfl, ?_⟩) ?_ ?_
                rotate_left
                · intro w'
                  go_simp
                  with_reducible rfl
                rotate_left
                · simp only [Act.put, List.setIfInBounds_toArray, List.set_cons_zero, List.set_cons_succ, i64_w, i32_w]
                  rfl
                refine take_ (i := 0) (N := some 41) (v := ?_) (a' := ?_) #[true, true, true, true, false, false, false] rfl rfl (by kernel_rfl) (fun _ _ _ h => h) (Or.inl ⟨by rfl, ?_⟩) hHeld ?_ ?_
                rotate_left
                · rintro w' ⟨s0, s1, s2, s3⟩
                  go_simp
                  with_reducible rfl
                rotate_left
                · simp only [Act.put, List.setIfInBounds_toArray, List.set_cons_zero, List.set_cons_succ, i64_w, i32_w]
                  rfl
                refine one_ (i := 4) (N := some 45) #[true, true, true, true, true, false, false] rfl rfl (by kernel_rfl) (by decide) (fun K hK => ?_)
                refine goes_ Try.func43 (by kernel_rfl) rfl #[.pointer (some ⟨g, 0, none⟩), .int .i64 (wrap64 (a1 - 1))] (by rfl) rfl rfl z43_1 ?_
                with_reducible refine (ih kj24 (by have := HJ2.out; have := HJ24.out; omega) g s0_0 t289 t290 (wrap64 (a1 - 1)) t292 t293 t294 t295 t298 t299 w0 _ ?side1 ?side2 A49.out).mono ?_
                (case side1 => repeat (first | (with_reducible first | exact HI0.out | apply IsS58.alloc | apply IsS58.drewN | apply IsS58.drew | apply IsS58.set_1 | apply IsS58.set_2 | refine IsS58.far ?_ NB0_231.out _ | refine IsS58.far ?_ NB0_291.out _) | exact HI0.out))
                (case side2 => repeat (first | (with_reducible first | exact HB.out | apply bA_ | apply bN_ | apply bD_ | refine bS_ ?_ (IsS58.ge HI0.out) | refine bS_ ?_ GE231.out | refine bS_ ?_ GE291.out) | exact HB.out))
                rintro e w59 ⟨v296, rfl, ho0, hi, hb, hk⟩
                refine ⟨_, rfl, ?_⟩
                have n0_ := Aside0.mk (KeepBut.blk hk (g' := gb231) (o := .cells #[.int .i64 0, .int .i64 0, .int .i64 0, .slice none 0 0] 29 (0, 0)) (pB43_ BK231.out) NB231_0.out (by simp))
                have n1_ := Aside0.mk (Kd.S_mono (Kd.S_told (Kd.S_oldK (IsS58.apartS (show IsS58 w0 _ g s0_0 t289 t290 from by repeat (first | (with_reducible first | exact HI0.out | apply IsS58.alloc | apply IsS58.drewN | apply IsS58.drew | apply IsS58.set_1 | apply IsS58.set_2 | refine IsS58.far ?_ NB0_231.out _ | refine IsS58.far ?_ NB0_291.out _) | exact HI0.out)) z43_6 (by decide)) hk) (Kd.S_base ho0)) (fun _ h_ => h_.1))
                have n2_ := Aside0.mk (KeepBut.blk hk (g' := gb291) (o := .cells #[.int .i64 t283, .int .i64 t284, .int .i64 t285, .slice Ao56 t286.length co56] 29 (0, 0)) (pB43_ BK291.out) NB291_0.out (by simp))
                have n3_ := Aside0.mk (Kd.S_lower (Kd.S_newB (Kd.S_newB (Kd.S_new' ho0 (Kd.S_lt z43_6)) (g := gb231) (o := .cells #[.int .i64 0, .int .i64 0, .int .i64 0, .slice none 0 0] 29 (0, 0)) (pB43_ BK231.out)) (g := gb291) (o := .cells #[.int .i64 t283, .int .i64 t284, .int .i64 t285, .slice Ao56 t286.length co56] 29 (0, 0)) (pB43_ BK291.out)) (keep_size (w := w) (g := g) (row := none) z43_2))
                have n4_ := Aside0.mk (KeepBut.trans z43_2 hk (.inl rfl))
                have n5_ := Aside0.mk (hb)
                have n6_ := Aside0.mk (hi)
                clear BK231
                clear HO288
                clear BK291
                clear HK
                clear HB
                clear HI0
                have BK231 := n0_
                have HO288 := n1_
                have BK291 := n2_
                have HO297 := n3_
                have HK := n4_
                have HB := n5_
                have HI0 := n6_
                clear n0_ n1_ n2_ n3_ n4_ n5_ n6_
                (try clear hb)
                (try clear hb2)
                (try clear hk)
                (try clear hi)
                (try clear ho0)
                obtain ⟨Ao60, co60, eo60⟩ := Kd.S_slice HO297.out
                (first | subst eo60 | (injection eo60 with f1_ f2_ f3_; have f4_ := f1_.symm; have f5_ := f3_.symm; clear f1_ f2_ f3_; subst f4_; subst f5_))
                refine hK.out _ _ ⟨(bC_ BK291.out 0).trans rfl, (bC_ BK291.out 1).trans rfl, (bC_ BK291.out 2).trans rfl, (bC_ BK291.out 3).trans rfl⟩ (fun hHeld => ?_)
                clear hK K
                refine norm_ (a' := ?_) ?_ ?_
                rotate_left
                · show Act.put _ (some 45) _ = _
                  simp only [Act.put, List.setIfInBounds_toArray, List.set_cons_zero, List.set_cons_succ, i64_w, i32_w]
                  rfl
                refine one_ (i := 5) (N := some 46) #[true, true, true, true, true, true, false] rfl rfl (by kernel_rfl) (by decide) (fun K hK => ?_)
                refine goes_ Try.func49 (by kernel_rfl) rfl #[.agg #[.int .i64 t283, .int .i64 t284, .int .i64 t285, .slice Ao56 t286.length co56], .agg #[.int .i64 t292, .int .i64 t293, .int .i64 t294, .slice Ao60 t295.length co60]] (by rfl) rfl rfl z43_1 ?_
                with_reducible refine (spec_CondOr.calls kj24 t283 t284 t285 _ _ t286 t292 t293 t294 _ _ t295 t300 t301 t302 t303 _ ?side1 ?side2 ?side3 ?side4 A50.out).mono ?_
                (case side1 => repeat (first | exact (Kd.S_reads' HO288.out).2.2 | (with_reducible refine Kd.C_alloc ?_ _) | (with_reducible refine Kd.C_drewN ?_ _) | (with_reducible refine Kd.C_drew ?_)))
                (case side2 => exact (Kd.S_reads' HO288.out).2.1)
                (case side3 => repeat (first | exact (Kd.S_reads' HO297.out).2.2 | (with_reducible refine Kd.C_alloc ?_ _) | (with_reducible refine Kd.C_drewN ?_ _) | (with_reducible refine Kd.C_drew ?_)))
                (case side4 => exact (Kd.S_reads' HO297.out).2.1)
                rintro e w61 ⟨v304, rfl, ho0, hb⟩
                refine ⟨_, rfl, ?_⟩
                have n0_ := Aside0.mk (Kd.S_elder' z43_6 (Kd.S_base ho0) hb)
                have n1_ := Aside0.mk (Kd.S_elder' (by (with_reducible repeat (first | apply Kd.S_alloc | apply Kd.S_drewN | apply Kd.S_drew)); exact HO297.out) (Kd.S_base ho0) hb)
                have n2_ := Aside0.mk (Kd.S_lower (Kd.S_newB (Kd.S_newB (Kd.S_new' (Kd.S_new' ho0 (Kd.S_lt z43_6)) (Kd.S_lt (by (with_reducible repeat (first | apply Kd.S_alloc | apply Kd.S_drewN | apply Kd.S_drew)); exact HO297.out))) (g := gb231) (o := .cells #[.int .i64 0, .int .i64 0, .int .i64 0, .slice none 0 0] 29 (0, 0)) (pB43_ BK231.out)) (g := gb291) (o := .cells #[.int .i64 t283, .int .i64 t284, .int .i64 t285, .slice Ao56 t286.length co56] 29 (0, 0)) (pB43_ BK291.out)) (keep_size (w := w) (g := g) (row := none) z43_2))
                have n3_ := Aside0.mk (blk_below (g := gb231) (o := .cells #[.int .i64 0, .int .i64 0, .int .i64 0, .slice none 0 0] 29 (0, 0)) (pB43_ BK231.out) hb)
                have n4_ := Aside0.mk (IsS58.below (by repeat (first | (with_reducible first | exact HI0.out | apply IsS58.alloc | apply IsS58.drewN | apply IsS58.drew | apply IsS58.set_1 | apply IsS58.set_2 | refine IsS58.far ?_ NB0_231.out _ | refine IsS58.far ?_ NB0_291.out _) | exact HI0.out)) hb)
                have n5_ := Aside0.mk (blk_below (g := gb291) (o := .cells #[.int .i64 t283, .int .i64 t284, .int .i64 t285, .slice Ao56 t286.length co56] 29 (0, 0)) (pB43_ BK291.out) hb)
                have n6_ := Aside0.mk (KeepBut.trans z43_2 (KeepBut.of_below hb g none) (.inl rfl))
                have n7_ := Aside0.mk (below_step (by repeat (first | (with_reducible first | exact HB.out | apply bA_ | apply bN_ | apply bD_ | refine bS_ ?_ (IsS58.ge HI0.out) | refine bS_ ?_ GE231.out | refine bS_ ?_ GE291.out) | exact HB.out)) hb)
                clear HO288
                clear HO297
                clear BK231
                clear HI0
                clear BK291
                clear HK
                clear HB
                have HO288 := n0_
                have HO297 := n1_
                have HO305 := n2_
                have BK231 := n3_
                have HI0 := n4_
                have BK291 := n5_
                have HK := n6_
                have HB := n7_
                clear n0_ n1_ n2_ n3_ n4_ n5_ n6_ n7_
                (try clear hb)
                (try clear hb2)
                (try clear hk)
                (try clear hi)
                (try clear ho0)
                obtain ⟨Ao65, co65, eo65⟩ := Kd.S_slice HO305.out
                (first | subst eo65 | (injection eo65 with f1_ f2_ f3_; have f4_ := f1_.symm; have f5_ := f3_.symm; clear f1_ f2_ f3_; subst f4_; subst f5_))
                refine hK.out _ _ ⟨(bC_ BK291.out 0).trans rfl, (bC_ BK291.out 1).trans rfl, (bC_ BK291.out 2).trans rfl, (bC_ BK291.out 3).trans rfl⟩ (fun hHeld => ?_)
                clear hK K
                refine norm_ (a' := ?_) ?_ ?_
                rotate_left
                · show Act.put _ (some 46) _ = _
                  simp only [Act.put, List.setIfInBounds_toArray, List.set_cons_zero, List.set_cons_succ, i64_w, i32_w]
                  rfl
                refine one_ (i := 6) (N := none) #[true, true, true, true, true, true, true] rfl rfl (by kernel_rfl) (by decide) (fun K hK => ?_)
                have hs62 : w61.cell? ⟨gb231, 0, none⟩ = some (.int .i64 0) := (bC_ BK231.out 0).trans rfl
                have hfs62 := bF_ BK231.out 0
                have hns62_1 := NB291_231.out
                have hms62_1 := NB231_291.out
                have hs63 : w61.cell? ⟨gb231, 1, none⟩ = some (.int .i64 0) := (bC_ BK231.out 1).trans rfl
                have hfs63 := bF_ BK231.out 1
                have hns63_1 := NB291_231.out
                have hms63_1 := NB231_291.out
                have hs64 : w61.cell? ⟨gb231, 2, none⟩ = some (.int .i64 0) := (bC_ BK231.out 2).trans rfl
                have hfs64 := bF_ BK231.out 2
                have hns64_1 := NB291_231.out
                have hms64_1 := NB231_291.out
                have hs66 : w61.cell? ⟨gb231, 3, none⟩ = some (.slice none 0 0) := (bC_ BK231.out 3).trans rfl
                have hfs66 := bF_ BK231.out 3
                have hns66_1 := NB291_231.out
                have hms66_1 := NB231_291.out
                refine skip_ (w1 := ?_) (by rfl) rfl ?_ ?_
                rotate_left
                · go_simp
                  rfl
                refine hK.out _ _ ⟨((cell_far (p := ⟨gb231, _, none⟩) NB291_231.out _).trans (((cell_far (p := ⟨gb231, _, none⟩) NB291_231.out _).trans (((cell_far (p := ⟨gb231, _, none⟩) NB291_231.out _).trans (((cell_far (p := ⟨gb231, _, none⟩) NB291_231.out _).trans (hHeld.1)))))))), ((cell_far (p := ⟨gb231, _, none⟩) NB291_231.out _).trans (((cell_far (p := ⟨gb231, _, none⟩) NB291_231.out _).trans (((cell_far (p := ⟨gb231, _, none⟩) NB291_231.out _).trans (((cell_far (p := ⟨gb231, _, none⟩) NB291_231.out _).trans (hHeld.2.1)))))))), ((cell_far (p := ⟨gb231, _, none⟩) NB291_231.out _).trans (((cell_far (p := ⟨gb231, _, none⟩) NB291_231.out _).trans (((cell_far (p := ⟨gb231, _, none⟩) NB291_231.out _).trans (((cell_far (p := ⟨gb231, _, none⟩) NB291_231.out _).trans (hHeld.2.2.1)))))))), ((cell_far (p := ⟨gb231, _, none⟩) NB291_231.out _).trans (((cell_far (p := ⟨gb231, _, none⟩) NB291_231.out _).trans (((cell_far (p := ⟨gb231, _, none⟩) NB291_231.out _).trans (((cell_far (p := ⟨gb231, _, none⟩) NB291_231.out _).trans (hHeld.2.2.2))))))))⟩ (fun hHeld => ?_)
                clear hK K
                refine done_ (by kernel_rfl) ?_
                try go_wp2
                refine bodyPost_ret (results_cell_row rfl _ _ gb231 29 #[.int .i64 t300, .int .i64 t301, .int .i64 t302, .slice Ao65 t303.length co65] (0, 0) _ rfl (by (with_reducible repeat (first | refine blk_drewN ?_ _ | refine blk_drew ?_ | refine blk_alloc ?_ _)); refine blk_put (cs := #[.int .i64 t300, .int .i64 t301, .int .i64 t302, .slice none 0 0]) ?_ 3 _ rfl; (with_reducible repeat (first | refine blk_drewN ?_ _ | refine blk_drew ?_ | refine blk_alloc ?_ _)); refine blk_put (cs := #[.int .i64 t300, .int .i64 t301, .int .i64 0, .slice none 0 0]) ?_ 2 _ rfl; (with_reducible repeat (first | refine blk_drewN ?_ _ | refine blk_drew ?_ | refine blk_alloc ?_ _)); refine blk_put (cs := #[.int .i64 t300, .int .i64 0, .int .i64 0, .slice none 0 0]) ?_ 1 _ rfl; (with_reducible repeat (first | refine blk_drewN ?_ _ | refine blk_drew ?_ | refine blk_alloc ?_ _)); refine blk_put (cs := #[.int .i64 0, .int .i64 0, .int .i64 0, .slice none 0 0]) ?_ 0 _ rfl; (with_reducible repeat (first | refine blk_drewN ?_ _ | refine blk_drew ?_ | refine blk_alloc ?_ _)); exact BK231.out) Try.underlying29 rfl (by kernel_rfl)) rfl ?_
                exact ⟨_, by first | rfl | (simp [errW_none, errW_some] <;> rfl) | (simp [*, errW_none, errW_some] <;> rfl), by (with_reducible repeat (first | apply Kd.S_alloc | apply Kd.S_drewN | apply Kd.S_drew)); exact Kd.S_mono (Kd.S_far (p := ⟨gb231, 3, none⟩) (Kd.S_far (p := ⟨gb231, 2, none⟩) (Kd.S_far (p := ⟨gb231, 1, none⟩) (Kd.S_far (p := ⟨gb231, 0, none⟩) (Kd.S_mono HO305.out (fun k_ hk => (⟨hk, hk.1.2⟩ : _ ∧ k_ ≠ gb231))) (fun _ hk => hk.2) (.int .i64 t300)) (fun _ hk => hk.2) (.int .i64 t301)) (fun _ hk => hk.2) (.int .i64 t302)) (fun _ hk => hk.2) (.slice Ao65 t303.length co65)) (fun _ hk => trivial), by repeat (first | (with_reducible first | exact HI0.out | apply IsS58.alloc | apply IsS58.drewN | apply IsS58.drew | apply IsS58.set_1 | apply IsS58.set_2 | refine IsS58.far ?_ NB0_231.out _ | refine IsS58.far ?_ NB0_291.out _) | exact HI0.out), by repeat (first | (with_reducible first | exact HB.out | apply bA_ | apply bN_ | apply bD_ | refine bS_ ?_ (IsS58.ge HI0.out) | refine bS_ ?_ GE231.out | refine bS_ ?_ GE291.out) | exact HB.out), by repeat (first | (with_reducible first | exact HK.out | apply KeepBut.set_ | apply keep_drewN | apply keep_drew | apply keep_alloc | refine keep_far ?_ GW231.out _ | refine keep_far ?_ GW291.out _) | exact HK.out)⟩

end Go.Proofs.Ythjhenhmjmpkaaa.XFnConditions
