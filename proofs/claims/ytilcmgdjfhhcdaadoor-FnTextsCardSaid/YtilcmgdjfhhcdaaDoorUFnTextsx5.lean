/- Written by this session's own program (wip/xprint, which runs over the kit's print): what the functions that the law reaches come to, each proved; and the law's row. Conditions: none. -/
import Derived.Test.YtilcmgdjfhhcdaaDoorUFnTextsSq
import Derived.Test.YtilcmgdjfhhcdaaDoorUFnTextsx0
import Derived.Test.YtilcmgdjfhhcdaaDoorUFnTextsx1
import Derived.Test.YtilcmgdjfhhcdaaDoorUFnTextsx4
namespace Go.Proofs.YtilcmgdjfhhcdaaDoor.XFnTexts
open Go.RowKit Go.Proofs.YtilcmgdjfhhcdaaDoorW.PrintWords Go.Proofs.YtilcmgdjfhhcdaaDoorW.PrintLast Go.Proofs.YtilcmgdjfhhcdaaDoorW.PrintMore Go.Proofs.YtilcmgdjfhhcdaaDoorSq
attribute [local go_sem] max2_int min2_int max_two min_two max_three min_three max_four min_four   -- for this text's walks alone
set_option linter.unusedVariables false
set_option linter.unusedSimpArgs false

/-! ### spec_CondOr: function 48 -/
def spec_CondOr.f (k : Nat) (a0_0 : Int) (a0_1 : Int) (a0_2 : Int) (l0_3 : List (S27)) (a1_0 : Int) (a1_1 : Int) (a1_2 : Int) (l1_3 : List (S27)) : Option (Int × Int × Int × (List (S27))) := (spec_l15Copy.f k a0_0 a0_1 a0_2 l0_3).bind fun bt243 => ((spec_l15Copy.f k a1_0 a1_1 a1_2 l1_3).bind fun bt249 => (some (9, 0, 0, (([(⟨bt243.1, bt243.2.1, bt243.2.2.1, bt243.2.2.2⟩ : S27), (⟨bt249.1, bt249.2.1, bt249.2.2.1, bt249.2.2.2⟩ : S27)] : List (S27))))))
set_option maxHeartbeats 8000000 in
set_option maxRecDepth 100000 in
theorem spec_CondOr.calls (k : Nat) (a0_0 : Int) (a0_1 : Int) (a0_2 : Int) (A0_3 : Option Addr) (c0_3 : Nat) (l0_3 : List (S27)) (a1_0 : Int) (a1_1 : Int) (a1_2 : Int) (A1_3 : Option Addr) (c1_3 : Nat) (l1_3 : List (S27)) (r1 : Int) (r2 : Int) (r3 : Int) (r4 : List (S27)) (w : World) (hr0_3 : Kd.C k27 w A0_3 l0_3.length l0_3) (hc0_3 : l0_3.length ≤ c0_3) (hr1_3 : Kd.C k27 w A1_3 l1_3.length l1_3) (hc1_3 : l1_3.length ≤ c1_3) (h : spec_CondOr.f k a0_0 a0_1 a0_2 l0_3 a1_0 a1_1 a1_2 l1_3 = some (r1, r2, r3, r4)) :
  Calls Tryd.prog 48 #[.agg #[.int .i64 a0_0, .int .i64 a0_1, .int .i64 a0_2, .slice A0_3 l0_3.length c0_3], .agg #[.int .i64 a1_0, .int .i64 a1_1, .int .i64 a1_2, .slice A1_3 l1_3.length c1_3]] w fun e w' => ∃ v3_ : Value, e = .returned (.agg #[.int .i64 r1, .int .i64 r2, .int .i64 r3, v3_]) ∧ Kd.N k27 27 w' w.heap.size (fun k_ => (w.heap.size ≤ k_)) v3_ r4 ∧ Below w.heap.size w w' := by
 have hu27 := Tryd.underlying27
 have HR0_3 := Aside0.mk hr0_3
 have HC0_3 := Aside0.mk hc0_3
 clear hr0_3 hc0_3
 have HR1_3 := Aside0.mk hr1_3
 have HC1_3 := Aside0.mk hc1_3
 clear hr1_3 hc1_3
 have HB := Aside0.mk (Below.refl w.heap.size w)
 have H : ((spec_l15Copy.f k a0_0 a0_1 a0_2 l0_3).bind fun bt243 => ((spec_l15Copy.f k a1_0 a1_1 a1_2 l1_3).bind fun bt249 => (some (9, 0, 0, (([(⟨bt243.1, bt243.2.1, bt243.2.2.1, bt243.2.2.2⟩ : S27), (⟨bt249.1, bt249.2.1, bt249.2.2.1, bt249.2.2.2⟩ : S27)] : List (S27))))))) = some (r1, r2, r3, r4) := h
 clear h
 obtain ⟨⟨t243, t244, t245, t246⟩, A3, H⟩ := bA H
 dsimp only at H
 obtain ⟨⟨t249, t250, t251, t252⟩, A4, H⟩ := bA H
 dsimp only at H
 obtain ⟨y255, hy255⟩ : ∃ y_ : List (S27), y_ = (([(⟨t243, t244, t245, t246⟩ : S27), (⟨t249, t250, t251, t252⟩ : S27)] : List (S27))) := ⟨_, rfl⟩
 replace H : (some (9, 0, 0, y255)) = some (r1, r2, r3, r4) := by first | (rw [hy255]; with_reducible exact H) | (have H2_ := (Option.bind_some _ _).symm.trans H; rw [hy255]; with_reducible exact H2_) | (have H2_ := (Option.bind_some _ _).symm.trans H; with_reducible exact H2_) | with_reducible exact H | (rw [hy255]; exact H) | exact H
 have Ny255 := Aside0.mk hy255
 clear hy255
 simp only [Option.some.injEq, Prod.mk.injEq] at H
 obtain ⟨rfl, rfl, rfl, rfl⟩ := H
 go_enter Tryd.func48, Tryd.ntmps48
 try go_wp2_with (first | ((with_reducible refine gate_dst (N := 2) rfl ?_); refine bx (N := 2) (cs := #[.int .i64 a0_0, .int .i64 a0_1, .int .i64 a0_2, .slice A0_3 l0_3.length c0_3]) (t := 27) ?_; intro gb240 hg w5 hbox hb; have BK240 := Aside0.mk (hbox); have GW240 := Aside0.mk ((by rw [hg]; exact (below_size sqh) : w.heap.size ≤ gb240)); have GE240 := Aside0.mk ((by rw [hg]; exact (below_size sqh) : w.heap.size ≤ gb240)); replace HB := Aside0.mk (below_step sqh hb); clear hb hbox hg) | ((with_reducible refine gate_dst (N := 3) rfl ?_); refine bx (N := 3) (cs := #[.int .i64 a1_0, .int .i64 a1_1, .int .i64 a1_2, .slice A1_3 l1_3.length c1_3]) (t := 27) ?_; intro gb241 hg w6 hbox hb; have BK241 := Aside0.mk (hbox); have GW241 := Aside0.mk ((by rw [hg]; exact (below_size sqh) : w.heap.size ≤ gb241)); have GE241 := Aside0.mk ((by rw [hg]; exact (below_size sqh) : w.heap.size ≤ gb241)); replace HB := Aside0.mk (below_step sqh hb); have NB240_241 := Aside0.mk ((by rw [hg]; exact Nat.ne_of_lt (blk_lt (bo BK240)) : gb240 ≠ gb241)); have NB241_240 := Aside0.mk ((by rw [hg]; exact Nat.ne_of_gt (blk_lt (bo BK240)) : gb241 ≠ gb240)); replace BK240 := Aside0.mk (blk_below (bo BK240) hb); clear hb hbox hg) | ((with_reducible refine gate_dst (N := 4) rfl ?_); refine bx (N := 4) (cs := #[.int .i64 0, .int .i64 0, .int .i64 0, .slice none 0 0]) (t := 27) ?_; intro gb242 hg w7 hbox hb; have BK242 := Aside0.mk (hbox); have GW242 := Aside0.mk ((by rw [hg]; exact (below_size sqh) : w.heap.size ≤ gb242)); have GE242 := Aside0.mk ((by rw [hg]; exact (below_size sqh) : w.heap.size ≤ gb242)); replace HB := Aside0.mk (below_step sqh hb); have NB240_242 := Aside0.mk ((by rw [hg]; exact Nat.ne_of_lt (blk_lt (bo BK240)) : gb240 ≠ gb242)); have NB242_240 := Aside0.mk ((by rw [hg]; exact Nat.ne_of_gt (blk_lt (bo BK240)) : gb242 ≠ gb240)); replace BK240 := Aside0.mk (blk_below (bo BK240) hb); have NB241_242 := Aside0.mk ((by rw [hg]; exact Nat.ne_of_lt (blk_lt (bo BK241)) : gb241 ≠ gb242)); have NB242_241 := Aside0.mk ((by rw [hg]; exact Nat.ne_of_gt (blk_lt (bo BK241)) : gb242 ≠ gb241)); replace BK241 := Aside0.mk (blk_below (bo BK241) hb); clear hb hbox hg))
 replace BK240 := Aside0.mk (blk_drew BK240.out)
 replace BK241 := Aside0.mk (blk_drew BK241.out)
 replace BK242 := Aside0.mk (blk_drew BK242.out)
 replace HB := Aside0.mk (below_drew1 HB.out)
 refine start_ (n := 7) (S := fun w' => w'.cell? ⟨gb240, 0, none⟩ = some (.int .i64 a0_0) ∧ w'.cell? ⟨gb240, 1, none⟩ = some (.int .i64 a0_1) ∧ w'.cell? ⟨gb240, 2, none⟩ = some (.int .i64 a0_2) ∧ w'.cell? ⟨gb240, 3, none⟩ = some (.slice A0_3 l0_3.length c0_3) ∧ w'.cell? ⟨gb241, 0, none⟩ = some (.int .i64 a1_0) ∧ w'.cell? ⟨gb241, 1, none⟩ = some (.int .i64 a1_1) ∧ w'.cell? ⟨gb241, 2, none⟩ = some (.int .i64 a1_2) ∧ w'.cell? ⟨gb241, 3, none⟩ = some (.slice A1_3 l1_3.length c1_3)) (ds := []) #[false, false, false, false, false, false, false] sqk rfl rfl (sa4 BK240.out (sc4 BK241.out)) (fun hHeld => ?_)
 generalize w7.drew = w8 at BK240 BK241 BK242 HB hHeld ⊢
 refine ta 0 5 ?_; refine ta 2 7 ?_
 refine on 1 (some 6) (fun K hK => ?_)
 refine goes_ Tryd.func52 sqk rfl #[.agg #[.int .i64 a0_0, .int .i64 a0_1, .int .i64 a0_2, .slice A0_3 l0_3.length c0_3]] (by rfl) rfl rfl sqm ?_
 with_reducible refine (spec_l15Copy.calls k a0_0 a0_1 a0_2 _ _ l0_3 t243 t244 t245 t246 _ ?side1 ?side2 A3.out).mono ?_
 (case side1 => repeat (first | exact (Kd.C_below HR0_3.out HB.out) | (with_reducible refine Kd.C_alloc ?_ _) | (with_reducible refine Kd.C_drewN ?_ _) | (with_reducible refine Kd.C_drew ?_)))
 (case side2 => exact HC0_3.out)
 rintro e w9 ⟨v247, rfl, ho0, hb⟩
 refine ⟨_, rfl, ?_⟩
 have HO248 := Aside0.mk (Kd.N_lower (Kd.N_mono (ok' := fun k_ => (w.heap.size ≤ k_) ∧ k_ ≠ gb240 ∧ k_ ≠ gb241 ∧ k_ ≠ gb242) (Kd.R_N (Kd.R_bound ho0)) (fun k_ hk_ => ⟨(Nat.le_trans (below_size sqh) hk_.2.1), (Kd.freshB (bo BK240) k_ hk_.2.1), (Kd.freshB (bo BK241) k_ hk_.2.1), (Kd.freshB (bo BK242) k_ hk_.2.1)⟩)) (below_size sqh))
 replace BK240 := Aside0.mk (blk_below (bo BK240) hb)
 replace BK241 := Aside0.mk (blk_below (bo BK241) hb)
 replace BK242 := Aside0.mk (blk_below (bo BK242) hb)
 replace HB := Aside0.mk (below_step sqh hb)
 (try clear hb)
 (try clear hb2)
 (try clear hk)
 (try clear hi)
 (try clear ho0)
 refine hK.out _ _ (sa4 BK240.out (sc4 BK241.out)) (fun hHeld => ?_)
 clear hK K; refine no 6 ?_
 refine on 3 (some 8) (fun K hK => ?_)
 refine goes_ Tryd.func52 sqk rfl #[.agg #[.int .i64 a1_0, .int .i64 a1_1, .int .i64 a1_2, .slice A1_3 l1_3.length c1_3]] (by rfl) rfl rfl sqm ?_
 with_reducible refine (spec_l15Copy.calls k a1_0 a1_1 a1_2 _ _ l1_3 t249 t250 t251 t252 _ ?side1 ?side2 A4.out).mono ?_
 (case side1 => repeat (first | exact (Kd.C_below HR1_3.out HB.out) | (with_reducible refine Kd.C_alloc ?_ _) | (with_reducible refine Kd.C_drewN ?_ _) | (with_reducible refine Kd.C_drew ?_)))
 (case side2 => exact HC1_3.out)
 rintro e w10 ⟨v253, rfl, ho0, hb⟩
 refine ⟨_, rfl, ?_⟩
 have HO254 := Aside0.mk (Kd.N_lower (Kd.N_mono (ok' := fun k_ => (w.heap.size ≤ k_) ∧ some k_ ≠ (v247 : Value).ownBlock ∧ k_ ≠ gb240 ∧ k_ ≠ gb241 ∧ k_ ≠ gb242) (Kd.R_N (Kd.R_bound ho0)) (fun k_ hk_ => ⟨(Nat.le_trans (below_size sqh) hk_.2.1), (Kd.fresh' (Kd.N_lt (by (with_reducible repeat (first | apply Kd.N_alloc | apply Kd.N_drewN | apply Kd.N_drew)); exact HO248.out)) k_ hk_.2.1), (Kd.freshB (bo BK240) k_ hk_.2.1), (Kd.freshB (bo BK241) k_ hk_.2.1), (Kd.freshB (bo BK242) k_ hk_.2.1)⟩)) (below_size sqh))
 replace HO248 := Aside0.mk (Kd.N_elder' (by (with_reducible repeat (first | apply Kd.N_alloc | apply Kd.N_drewN | apply Kd.N_drew)); exact HO248.out) (Kd.N_base (Kd.R_N ho0)) hb)
 replace BK240 := Aside0.mk (blk_below (bo BK240) hb)
 replace BK241 := Aside0.mk (blk_below (bo BK241) hb)
 replace BK242 := Aside0.mk (blk_below (bo BK242) hb)
 replace HB := Aside0.mk (below_step sqh hb)
 (try clear hb)
 (try clear hb2)
 (try clear hk)
 (try clear hi)
 (try clear ho0)
 obtain ⟨Ao11, co11, eo11⟩ := Kd.N_slice HO248.out
 (first | subst eo11 | (injection eo11 with f1_ f2_ f3_; have f4_ := f1_.symm; have f5_ := f3_.symm; clear f1_ f2_ f3_; subst f4_; subst f5_))
 obtain ⟨Ao12, co12, eo12⟩ := Kd.N_slice HO254.out
 (first | subst eo12 | (injection eo12 with f1_ f2_ f3_; have f4_ := f1_.symm; have f5_ := f3_.symm; clear f1_ f2_ f3_; subst f4_; subst f5_))
 refine hK.out _ _ (sa4 BK240.out (sc4 BK241.out)) (fun hHeld => ?_)
 clear hK K; refine no 8 ?_
 refine on 4 (some 9) (fun K hK => ?_)
 refine Kd.N_lit_step k27 _ 27 ?hg (N' := 9) ?hd (xs := ([(⟨t243, t244, t245, t246⟩ : S27), (⟨t249, t250, t251, t252⟩ : S27)] : List (S27))) (inner := [.int .i64 t243, .int .i64 t244, .int .i64 t245, .slice Ao11 t246.length co11, .int .i64 t249, .int .i64 t250, .int .i64 t251, .slice Ao12 t252.length co12]) (ok := (fun k_ => (w.heap.size ≤ k_) ∧ k_ ≠ gb240 ∧ k_ ≠ gb241 ∧ k_ ≠ gb242)) (okp := (fun k_ => (w.heap.size ≤ k_) ∧ k_ ≠ gb240 ∧ k_ ≠ gb241 ∧ k_ ≠ gb242)) ?hr ?hp (fun _ hk => hk) ((show ∀ k_, w10.heap.size ≤ k_ → (fun k_ => (w.heap.size ≤ k_) ∧ k_ ≠ gb240 ∧ k_ ≠ gb241 ∧ k_ ≠ gb242) k_ from fun k_ hk => ⟨(Nat.le_trans (below_size sqh) hk), Kd.freshB (bo BK240) k_ hk, Kd.freshB (bo BK241) k_ hk, Kd.freshB (bo BK242) k_ hk⟩) _ (Nat.le_refl _)) (Below.refl _ _) (Nat.le_refl _) (by simp) ?_; (case hd => rfl); (case hg => rfl); (case hr => first | (go_simp; done) | (go_simp; rfl)); (case hp => exact (Reps.c4 (show Kd.FK k27 _ _ (⟨t243, t244, t245, t246⟩ : S27) [.int .i64 t243, .int .i64 t244, .int .i64 t245, .slice Ao11 t246.length co11] from (k27_mkF _ _ (⟨t243, t244, t245, t246⟩ : S27) (Kd.N_reads' (Kd.N_mono (ok' := (fun k_ => (w.heap.size ≤ k_) ∧ k_ ≠ gb240 ∧ k_ ≠ gb241 ∧ k_ ≠ gb242)) (HO248.out) (fun k_ hk => ⟨hk.1.1, ⟨hk.1.2.1, ⟨hk.1.2.2.1, hk.1.2.2.2⟩⟩⟩))).2.1 (Kd.N_F (Kd.N_mono (ok' := (fun k_ => (w.heap.size ≤ k_) ∧ k_ ≠ gb240 ∧ k_ ≠ gb241 ∧ k_ ≠ gb242)) (HO248.out) (fun k_ hk => ⟨hk.1.1, ⟨hk.1.2.1, ⟨hk.1.2.2.1, hk.1.2.2.2⟩⟩⟩))))) (Reps.c4 (show Kd.FK k27 _ _ (⟨t249, t250, t251, t252⟩ : S27) [.int .i64 t249, .int .i64 t250, .int .i64 t251, .slice Ao12 t252.length co12] from (k27_mkF _ _ (⟨t249, t250, t251, t252⟩ : S27) (Kd.N_reads' (Kd.N_mono (ok' := (fun k_ => (w.heap.size ≤ k_) ∧ k_ ≠ gb240 ∧ k_ ≠ gb241 ∧ k_ ≠ gb242)) (HO254.out) (fun k_ hk => ⟨hk.1, ⟨hk.2.2.1, ⟨hk.2.2.2.1, hk.2.2.2.2⟩⟩⟩))).2.1 (Kd.N_F (Kd.N_mono (ok' := (fun k_ => (w.heap.size ≤ k_) ∧ k_ ≠ gb240 ∧ k_ ≠ gb241 ∧ k_ ≠ gb242)) (HO254.out) (fun k_ hk => ⟨hk.1, ⟨hk.2.2.1, ⟨hk.2.2.2.1, hk.2.2.2.2⟩⟩⟩))))) (Reps.none _ _))))
 intro v256 w13 ho14 hb hg_ hnew_
 clear hg_ hnew_
 (first | rw [← Ny255.out] at ho14 | (simp only [Int.reduceToNat] at ho14; rw [← Ny255.out] at ho14))
 have HO257 := Aside0.mk (Kd.N_lower ho14 (below_size sqh))
 replace BK240 := Aside0.mk (blk_below (bo BK240) hb)
 replace BK241 := Aside0.mk (blk_below (bo BK241) hb)
 replace BK242 := Aside0.mk (blk_below (bo BK242) hb)
 replace HB := Aside0.mk (below_step sqh hb)
 clear HO248 HO254; clear hb ho14
 obtain ⟨Ao15, co15, eo15⟩ := Kd.N_slice HO257.out
 (first | subst eo15 | (injection eo15 with f1_ f2_ f3_; have f4_ := f1_.symm; have f5_ := f3_.symm; clear f1_ f2_ f3_; subst f4_; subst f5_))
 refine hK.out _ _ (sa4 BK240.out (sc4 BK241.out)) (fun hHeld => ?_)
 clear hK K; refine no 9 ?_; refine pu 5 10 ?_
 refine on 6 none (fun K hK => ?_)
 obtain ⟨hs16, hfs16⟩ := sd1 BK242.out
 have hns16_0 := NB240_242.out
 have hns16_1 := NB241_242.out
 have hms16_0 := NB242_240.out
 have hms16_1 := NB242_241.out
 have hs17 : w13.cell? ⟨gb242, 1, none⟩ = some (.int .i64 0) := (blk_cell BK242.out 1).trans rfl
 have hfs17 := blk_frozen BK242.out 1
 have hns17_0 := NB240_242.out
 have hns17_1 := NB241_242.out
 have hms17_0 := NB242_240.out
 have hms17_1 := NB242_241.out
 have hs18 : w13.cell? ⟨gb242, 2, none⟩ = some (.int .i64 0) := (blk_cell BK242.out 2).trans rfl
 have hfs18 := blk_frozen BK242.out 2
 have hns18_0 := NB240_242.out
 have hns18_1 := NB241_242.out
 have hms18_0 := NB242_240.out
 have hms18_1 := NB242_241.out
 have hs19 : w13.cell? ⟨gb242, 3, none⟩ = some (.slice none 0 0) := (blk_cell BK242.out 3).trans rfl
 have hfs19 := blk_frozen BK242.out 3
 have hns19_0 := NB240_242.out
 have hns19_1 := NB241_242.out
 have hms19_0 := NB242_240.out
 have hms19_1 := NB242_241.out
 refine skip_ (w1 := ?_) (by rfl) rfl ?_ ?_
 rotate_left
 ·go_simp
  rfl
 refine hK.out _ _ ⟨((cell_far (p := ⟨gb242, _, none⟩) NB240_242.out _).trans (((cell_far (p := ⟨gb242, _, none⟩) NB240_242.out _).trans (((cell_far (p := ⟨gb242, _, none⟩) NB240_242.out _).trans (((cell_far (p := ⟨gb242, _, none⟩) NB240_242.out _).trans (hHeld.1)))))))), ((cell_far (p := ⟨gb242, _, none⟩) NB240_242.out _).trans (((cell_far (p := ⟨gb242, _, none⟩) NB240_242.out _).trans (((cell_far (p := ⟨gb242, _, none⟩) NB240_242.out _).trans (((cell_far (p := ⟨gb242, _, none⟩) NB240_242.out _).trans (hHeld.2.1)))))))), ((cell_far (p := ⟨gb242, _, none⟩) NB240_242.out _).trans (((cell_far (p := ⟨gb242, _, none⟩) NB240_242.out _).trans (((cell_far (p := ⟨gb242, _, none⟩) NB240_242.out _).trans (((cell_far (p := ⟨gb242, _, none⟩) NB240_242.out _).trans (hHeld.2.2.1)))))))), ((cell_far (p := ⟨gb242, _, none⟩) NB240_242.out _).trans (((cell_far (p := ⟨gb242, _, none⟩) NB240_242.out _).trans (((cell_far (p := ⟨gb242, _, none⟩) NB240_242.out _).trans (((cell_far (p := ⟨gb242, _, none⟩) NB240_242.out _).trans (hHeld.2.2.2.1)))))))), ((cell_far (p := ⟨gb242, _, none⟩) NB241_242.out _).trans (((cell_far (p := ⟨gb242, _, none⟩) NB241_242.out _).trans (((cell_far (p := ⟨gb242, _, none⟩) NB241_242.out _).trans (((cell_far (p := ⟨gb242, _, none⟩) NB241_242.out _).trans (hHeld.2.2.2.2.1)))))))), ((cell_far (p := ⟨gb242, _, none⟩) NB241_242.out _).trans (((cell_far (p := ⟨gb242, _, none⟩) NB241_242.out _).trans (((cell_far (p := ⟨gb242, _, none⟩) NB241_242.out _).trans (((cell_far (p := ⟨gb242, _, none⟩) NB241_242.out _).trans (hHeld.2.2.2.2.2.1)))))))), ((cell_far (p := ⟨gb242, _, none⟩) NB241_242.out _).trans (((cell_far (p := ⟨gb242, _, none⟩) NB241_242.out _).trans (((cell_far (p := ⟨gb242, _, none⟩) NB241_242.out _).trans (((cell_far (p := ⟨gb242, _, none⟩) NB241_242.out _).trans (hHeld.2.2.2.2.2.2.1)))))))), ((cell_far (p := ⟨gb242, _, none⟩) NB241_242.out _).trans (((cell_far (p := ⟨gb242, _, none⟩) NB241_242.out _).trans (((cell_far (p := ⟨gb242, _, none⟩) NB241_242.out _).trans (((cell_far (p := ⟨gb242, _, none⟩) NB241_242.out _).trans (hHeld.2.2.2.2.2.2.2))))))))⟩ (fun hHeld => ?_)
 clear hK K
 refine dn ?_
 try go_wp2
 refine bodyPost_ret (results_cell_row rfl _ _ gb242 27 #[.int .i64 9, .int .i64 0, .int .i64 0, .slice Ao15 y255.length co15] (0, 0) _ rfl ?_ Tryd.underlying27 rfl sqk) rfl ?_; exact bp BK242
 exact ⟨_, sqe, by (with_reducible repeat (first | apply Kd.N_alloc | apply Kd.N_drewN | apply Kd.N_drew)); exact Kd.N_mono (Kd.N_far (p := ⟨gb242, 3, none⟩) (Kd.N_far (p := ⟨gb242, 2, none⟩) (Kd.N_far (p := ⟨gb242, 1, none⟩) (Kd.N_far (p := ⟨gb242, 0, none⟩) (Kd.N_mono HO257.out (fun k_ hk => (⟨hk, hk.2.2.2⟩ : _ ∧ k_ ≠ gb242))) (fun _ hk => hk.2) (.int .i64 9)) (fun _ hk => hk.2) (.int .i64 0)) (fun _ hk => hk.2) (.int .i64 0)) (fun _ hk => hk.2) (.slice Ao15 y255.length co15)) (fun _ hk => hk.1.1), sqh⟩

/-! ### spec_l15Cond: function 27 -/
mutual
def spec_l15Cond.j0 : Nat → Int → Bool → List Int → Int → Int → Option (Int × Int × Int × (List (S27)) × Int × Int)
 | 0, _, _, _, _, _ => none
 | k + 1, x1, x12, x1000, x1001, x1002 => if x12 = true then ((spec_l15Leaf.f k x1000 x1001 x1002).bind fun bt262 => (some (bt262.1, bt262.2.1, bt262.2.2.1, bt262.2.2.2.1, bt262.2.2.2.2.1, bt262.2.2.2.2.2))) else ((spec_l1Below.f x1000 x1001 x1002 5).bind fun bt270 => (if bt270.1 = 0 then ((spec_l15Cond.f k x1000 bt270.2.1 bt270.2.2 (wrap64 (x1 - 1))).bind fun bt273 => ((spec_CondNot.f k bt273.1 bt273.2.1 bt273.2.2.1 bt273.2.2.2.1).bind fun bt281 => (some (bt281.1, bt281.2.1, bt281.2.2.1, bt281.2.2.2, bt273.2.2.2.2.1, bt273.2.2.2.2.2)))) else (if bt270.1 = 1 then (spec_l15Cond.j1 k x1 (bt270.1 == 1) x1000 bt270.2.1 bt270.2.2) else (spec_l15Cond.j1 k x1 (bt270.1 == 2) x1000 bt270.2.1 bt270.2.2))))
def spec_l15Cond.j1 : Nat → Int → Bool → List Int → Int → Int → Option (Int × Int × Int × (List (S27)) × Int × Int)
 | 0, _, _, _, _, _ => none
 | k + 1, x1, x24, x1000, x1001, x1002 => if x24 = true then ((spec_l15Cond.f k x1000 x1001 x1002 (wrap64 (x1 - 1))).bind fun bt287 => ((spec_l15Cond.f k x1000 bt287.2.2.2.2.1 bt287.2.2.2.2.2 (wrap64 (x1 - 1))).bind fun bt296 => ((spec_CondAnd.f k bt287.1 bt287.2.1 bt287.2.2.1 bt287.2.2.2.1 bt296.1 bt296.2.1 bt296.2.2.1 bt296.2.2.2.1).bind fun bt304 => (some (bt304.1, bt304.2.1, bt304.2.2.1, bt304.2.2.2, bt296.2.2.2.2.1, bt296.2.2.2.2.2))))) else ((spec_l15Cond.f k x1000 x1001 x1002 (wrap64 (x1 - 1))).bind fun bt310 => ((spec_l15Cond.f k x1000 bt310.2.2.2.2.1 bt310.2.2.2.2.2 (wrap64 (x1 - 1))).bind fun bt319 => ((spec_CondOr.f k bt310.1 bt310.2.1 bt310.2.2.1 bt310.2.2.2.1 bt319.1 bt319.2.1 bt319.2.2.1 bt319.2.2.2.1).bind fun bt327 => (some (bt327.1, bt327.2.1, bt327.2.2.1, bt327.2.2.2, bt319.2.2.2.2.1, bt319.2.2.2.2.2)))))
def spec_l15Cond.f : Nat → List Int → Int → Int → Int → Option (Int × Int × Int × (List (S27)) × Int × Int)
 | 0, _, _, _, _ => none
 | k + 1, s0_0, s0_1, s0_2, a1 => if a1 < 1 then (spec_l15Cond.j0 k a1 true s0_0 s0_1 s0_2) else ((spec_l1Once.f s0_0 s0_1 s0_2 3).bind fun bt259 => (spec_l15Cond.j0 k a1 bt259.1 s0_0 bt259.2.1 bt259.2.2))
end
theorem z27_0 {Q : Prop} (g : Q := by repeat (first | (with_reducible first | exact HK.out | apply KeepBut.set_ | apply keep_drewN | apply keep_drew | apply keep_alloc | refine keep_far ?_ GW258.out _) | exact HK.out)) : Q := g
theorem z27_1 {Q : Prop} (g : Q := by repeat (first | (with_reducible first | exact HK.out | apply KeepBut.set_ | apply keep_drewN | apply keep_drew | apply keep_alloc | refine keep_far ?_ GW258.out _ | refine keep_far ?_ GW318.out _) | exact HK.out)) : Q := g
theorem z27_2 {Q : Prop} (g : Q := by repeat (first | (with_reducible first | exact HK.out | apply KeepBut.set_ | apply keep_drewN | apply keep_drew | apply keep_alloc | refine keep_far ?_ GW258.out _ | refine keep_far ?_ GW295.out _) | exact HK.out)) : Q := g
theorem z27_3 {Q : Prop} (g : Q := by (with_reducible repeat (first | apply Kd.N_alloc | apply Kd.N_drewN | apply Kd.N_drew)); exact HO315.out) : Q := g
theorem z27_4 {Q : Prop} (g : Q := by (with_reducible repeat (first | apply Kd.N_alloc | apply Kd.N_drewN | apply Kd.N_drew)); exact HO292.out) : Q := g
set_option maxHeartbeats 8000000 in
set_option maxRecDepth 100000 in
theorem spec_l15Cond.calls (k : Nat) : ∀ (g : Nat) (s0_0 : List Int) (s0_1 : Int) (s0_2 : Int) (a1 : Int) (r1 : Int) (r2 : Int) (r3 : Int) (r4 : List (S27)) (r5 : Int) (r6 : Int) (w0 w : World) (hI : IsS48 w0 w g s0_0 s0_1 s0_2) (hB : Below w0.heap.size w0 w) (h : spec_l15Cond.f k s0_0 s0_1 s0_2 a1 = some (r1, r2, r3, r4, r5, r6)),
  Calls Tryd.prog 27 #[.pointer (some ⟨g, 0, none⟩), .int .i64 a1] w fun e w' => ∃ v3_ : Value, e = .returned (.agg #[.int .i64 r1, .int .i64 r2, .int .i64 r3, v3_]) ∧ Kd.N k27 27 w' w.heap.size (fun k_ => (w.heap.size ≤ k_)) v3_ r4 ∧ IsS48 w0 w' g s0_0 r5 r6 ∧ Below w0.heap.size w0 w' ∧ KeepBut w w' g none := by
 induction k using Nat.strongRecOn with
 | _ k ih =>
 intro g s0_0 s0_1 s0_2 a1 r1 r2 r3 r4 r5 r6 w0 w hI hB h
 cases k with
 | zero => exact absurd h (by simp [spec_l15Cond.f])
 | succ k =>
 simp only [spec_l15Cond.f] at h
 have hu27 := Tryd.underlying27
 have HI0 := Aside0.mk hI
 have HK := Aside0.mk (KeepBut.refl w g none)
 have HL := Aside0.mk hB.size
 clear hI
 have HW0 := Aside0.mk hB.size
 have HB := Aside0.mk hB
 clear hB
 have H : (if a1 < 1 then (spec_l15Cond.j0 k a1 true s0_0 s0_1 s0_2) else ((spec_l1Once.f s0_0 s0_1 s0_2 3).bind fun bt259 => (spec_l15Cond.j0 k a1 bt259.1 s0_0 bt259.2.1 bt259.2.2))) = some (r1, r2, r3, r4, r5, r6) := h
 clear h
 have HC3 := Aside0.mk H
 clear H
 go_enter Tryd.func27, Tryd.ntmps27
 go_upto_region 1 with (first | ((with_reducible refine gate_dst (N := 4) rfl ?_); refine bx (N := 4) (cs := #[.int .i64 0, .int .i64 0, .int .i64 0, .slice none 0 0]) (t := 27) ?_; intro gb258 hg w4 hbox hb; replace HB := Aside0.mk (below_step sqj hb); have BK258 := Aside0.mk (hbox); have GW258 := Aside0.mk ((by rw [hg]; exact (keep_size (w := w) (g := g) (row := none) sqp) : w.heap.size ≤ gb258)); have GE258 := Aside0.mk ((Nat.le_trans HW0.out (by rw [hg]; exact (keep_size (w := w) (g := g) (row := none) sqp) : w.heap.size ≤ gb258) : w0.heap.size ≤ gb258)); replace HK := Aside0.mk (KeepBut.trans sqp (KeepBut.of_below hb g none) (.inl rfl)); have NB0_258 := Aside0.mk ((by rw [hg]; exact Nat.ne_of_lt (IsS48.lt (show IsS48 w0 _ g s0_0 s0_1 s0_2 from sqi)) : g ≠ gb258)); have NB258_0 := Aside0.mk ((by rw [hg]; exact Nat.ne_of_gt (IsS48.lt (show IsS48 w0 _ g s0_0 s0_1 s0_2 from sqi)) : gb258 ≠ g)); replace HI0 := Aside0.mk (IsS48.below sqi hb); clear hb hbox hg))
 (try simp only [Act.put, List.setIfInBounds_toArray, List.set_cons_zero, List.set_cons_succ])
 go_cut [12] (fun v12 wc => ∃ (kq : Nat) (x12_2 : Bool) (x1001_2 : Int) (x1002_2 : Int), v12 = .bool x12_2 ∧ Aside0 (spec_l15Cond.j0 kq a1 x12_2 s0_0 x1001_2 x1002_2 = some (r1, r2, r3, r4, r5, r6)) ∧ Aside0 (kq ≤ k) ∧ Aside0 (wc.heap[gb258]? = some (.cells #[.int .i64 0, .int .i64 0, .int .i64 0, (.slice none 0 0)] 27 (0, 0))) ∧ Aside0 (IsS48 w0 wc g s0_0 x1001_2 x1002_2) ∧ Aside0 (KeepBut w wc g none) ∧ Aside0 (Below w0.heap.size w0 wc))
 case first =>
  have H := HC3.out
  clear HC3
  by_cases c5 : a1 < 1
  ·rw [if_pos c5] at H
   have c5b0 : decide (a1 < 1) = true := decide_eq_true c5
   clear c5
   (first | rw [c5b0] | (simp only [i64_w, i32_w]; rw [c5b0]) | skip)
   have H' := Aside0.mk H
   clear H
   go_wp2
   go_meet
   case rel => exact ⟨_, (true), (s0_1), (s0_2), sqr, H', ⟨sqo⟩, ⟨sqb BK258.out⟩, ⟨sqi⟩, ⟨by repeat (first | (with_reducible first | exact HK.out | apply KeepBut.set_ | apply keep_drewN | apply keep_drew | apply keep_alloc | refine keep_far ?_ GW258.out _) | exact HK.out)⟩, ⟨sqj⟩⟩
  ·rw [if_neg c5] at H
   have c5b0 : decide (a1 < 1) = false := decide_eq_false c5
   clear c5
   (first | rw [c5b0] | (simp only [i64_w, i32_w]; rw [c5b0]) | skip)
   obtain ⟨⟨t259, t260, t261⟩, A6, H⟩ := bA H
   dsimp only at H
   have H' := Aside0.mk H
   clear H
   go_wp2_with (first | (go_at_call 13; (with_reducible refine (spec_l1Once.calls g s0_0 s0_1 s0_2 3 t259 t260 t261 w0 _ ?side1 ?side2 A6.out).mono ?_); (case side1 => exact sqi); (case side2 => exact sqj); rintro e w7 ⟨rfl, hi, hb, hk⟩; replace BK258 := Aside0.mk (KeepBut.blk hk (g' := gb258) (o := .cells #[.int .i64 0, .int .i64 0, .int .i64 0, .slice none 0 0] 27 (0, 0)) (sqb BK258.out) NB258_0.out (by simp)); replace HK := Aside0.mk (KeepBut.trans z27_0 hk (.inl rfl)); replace HB := Aside0.mk (hb); replace HI0 := Aside0.mk (hi); (try clear hb); (try clear hk); (try clear hi)))
   go_meet
   case rel => exact ⟨_, (t259), (t260), (t261), sqr, H', ⟨sqo⟩, ⟨sqb BK258.out⟩, ⟨sqi⟩, ⟨by repeat (first | (with_reducible first | exact HK.out | apply KeepBut.set_ | apply keep_drewN | apply keep_drew | apply keep_alloc | refine keep_far ?_ GW258.out _) | exact HK.out)⟩, ⟨sqj⟩⟩
 case rest =>
  clear HC3; try clear c2; try clear p2; try clear c5; try clear c5b0
  obtain ⟨kq, x12_2, x1001_2, x1002_2, rfl, HA, HJ2, BK258, HI0, HK, HB⟩ := hcut
  cases kq with
  | zero => exact absurd HA.out (by simp [spec_l15Cond.j0])
  | succ kj2 =>
   have H := HA.out
   clear HA
   simp only [spec_l15Cond.j0] at H
   by_cases c8 : x12_2 = true
   ·subst c8
    replace H := iT H
    obtain ⟨⟨t262, t263, t264, t265, t268, t269⟩, A9, H⟩ := bA H
    dsimp only at H
    simp only [Option.some.injEq, Prod.mk.injEq] at H
    obtain ⟨rfl, rfl, rfl, rfl, rfl, rfl⟩ := H
    go_wp2_with (first | ((with_reducible refine gate_callee (f := 29) rfl ?_); refine goesL_ (some 14) rfl rfl Tryd.func29 sqk rfl #[.pointer (some ⟨g, 0, none⟩)] rfl sqm ?_; (with_reducible refine (spec_l15Leaf.calls kj2 g s0_0 x1001_2 x1002_2 t262 t263 t264 t265 t268 t269 w0 _ ?side1 ?side2 A9.out).mono ?_); (case side1 => exact sqi); (case side2 => exact sqj); rintro e w10 ⟨v266, rfl, ho0, hi, hb, hk⟩; refine ⟨_, rfl, ?_⟩; have HO267 := Aside0.mk (Kd.N_lower (Kd.N_mono (ok' := fun k_ => (w.heap.size ≤ k_) ∧ k_ ≠ gb258 ∧ k_ ≠ g) (Kd.R_N (Kd.R_bound ho0)) (fun k_ hk_ => ⟨(Nat.le_trans (keep_size (w := w) (g := g) (row := none) z27_0) hk_.2.1), (Kd.freshB (bo BK258) k_ hk_.2.1), (IsS48.fresh sqi k_ hk_.2.1)⟩)) (keep_size (w := w) (g := g) (row := none) z27_0)); replace BK258 := Aside0.mk (KeepBut.blk hk (g' := gb258) (o := .cells #[.int .i64 0, .int .i64 0, .int .i64 0, .slice none 0 0] 27 (0, 0)) (sqb BK258.out) NB258_0.out (by simp)); replace HK := Aside0.mk (KeepBut.trans z27_0 hk (.inl rfl)); replace HB := Aside0.mk (hb); replace HI0 := Aside0.mk (hi); (try clear hb); (try clear hk); (try clear hi); (try clear ho0); have hnb11 := NB258_0.out; have hnc11 := NB0_258.out; obtain ⟨hcz12_0, hcz12_1, hcz12_2, hcz12_3, hfz12_0, hfz12_1, hfz12_2, hfz12_3⟩ := sd4 BK258.out; obtain ⟨Ao13, co13, eo13⟩ := Kd.N_slice HO267.out; subst eo13))
    refine bodyPost_ret (results_cell_row rfl _ _ gb258 27 #[.int .i64 t262, .int .i64 t263, .int .i64 t264, .slice Ao13 t265.length co13] (0, 0) _ rfl ?_ Tryd.underlying27 rfl sqk) rfl ?_; exact bp BK258
    exact ⟨_, sqe, by (with_reducible repeat (first | apply Kd.N_alloc | apply Kd.N_drewN | apply Kd.N_drew)); exact Kd.N_mono (Kd.N_far (p := ⟨gb258, 3, none⟩) (Kd.N_far (p := ⟨gb258, 2, none⟩) (Kd.N_far (p := ⟨gb258, 1, none⟩) (Kd.N_far (p := ⟨gb258, 0, none⟩) (Kd.N_mono HO267.out (fun k_ hk => (⟨hk, hk.2.1⟩ : _ ∧ k_ ≠ gb258))) (fun _ hk => hk.2) (.int .i64 t262)) (fun _ hk => hk.2) (.int .i64 t263)) (fun _ hk => hk.2) (.int .i64 t264)) (fun _ hk => hk.2) (.slice Ao13 t265.length co13)) (fun _ hk => hk.1.1), sqi, sqj, by repeat (first | (with_reducible first | exact HK.out | apply KeepBut.set_ | apply keep_drewN | apply keep_drew | apply keep_alloc | refine keep_far ?_ GW258.out _) | exact HK.out)⟩
   ·replace c8 := Bool.eq_false_iff.mpr c8
    subst c8
    replace H := iF H
    obtain ⟨⟨t270, t271, t272⟩, A14, H⟩ := bA H
    dsimp only at H
    by_cases c15 : t270 = 0
    ·rw [if_pos c15] at H
     have c15b0 : (t270 == 0) = true := beq_iff_eq.mpr c15
     have c15b1 : (t270 != 0) = false := bne_eq_false_iff_eq.mpr c15
     clear c15
     obtain ⟨⟨t273, t274, t275, t276, t279, t280⟩, A16, H⟩ := bA H
     dsimp only at H
     obtain ⟨⟨t281, t282, t283, t284⟩, A17, H⟩ := bA H
     dsimp only at H
     simp only [Option.some.injEq, Prod.mk.injEq] at H
     obtain ⟨rfl, rfl, rfl, rfl, rfl, rfl⟩ := H
     go_wp2_with (first | ((with_reducible refine gate_callee (f := 25) rfl ?_); refine goesL_ (some 16) rfl rfl Tryd.func25 sqk rfl #[.pointer (some ⟨g, 0, none⟩), .int .i64 5] rfl sqm ?_; (with_reducible refine (spec_l1Below.calls g s0_0 x1001_2 x1002_2 5 t270 t271 t272 w0 _ ?side1 ?side2 A14.out).mono ?_); (case side1 => exact sqi); (case side2 => exact sqj); rintro e w18 ⟨rfl, hi, hb, hk⟩; refine ⟨_, rfl, ?_⟩; replace BK258 := Aside0.mk (KeepBut.blk hk (g' := gb258) (o := .cells #[.int .i64 0, .int .i64 0, .int .i64 0, .slice none 0 0] 27 (0, 0)) (sqb BK258.out) NB258_0.out (by simp)); replace HK := Aside0.mk (KeepBut.trans z27_0 hk (.inl rfl)); replace HB := Aside0.mk (hb); replace HI0 := Aside0.mk (hi); (try clear hb); (try clear hk); (try clear hi)) | ((with_reducible refine gate_callee (f := 27) rfl ?_); refine goesL_ (some 22) rfl rfl Tryd.func27 sqk rfl #[.pointer (some ⟨g, 0, none⟩), .int .i64 (wrap64 (a1 - 1))] rfl sqm ?_; (with_reducible refine (ih kj2 (by have := HJ2.out; omega) g s0_0 t271 t272 (wrap64 (a1 - 1)) t273 t274 t275 t276 t279 t280 w0 _ ?side1 ?side2 A16.out).mono ?_); (case side1 => exact sqi); (case side2 => exact sqj); rintro e w19 ⟨v277, rfl, ho0, hi, hb, hk⟩; refine ⟨_, rfl, ?_⟩; have HO278 := Aside0.mk (Kd.N_lower (Kd.N_mono (ok' := fun k_ => (w.heap.size ≤ k_) ∧ k_ ≠ gb258 ∧ k_ ≠ g) ho0 (fun k_ hk_ => ⟨(Nat.le_trans (keep_size (w := w) (g := g) (row := none) z27_0) hk_), (Kd.freshB (bo BK258) k_ hk_), (IsS48.fresh sqi k_ hk_)⟩)) (keep_size (w := w) (g := g) (row := none) z27_0)); replace BK258 := Aside0.mk (KeepBut.blk hk (g' := gb258) (o := .cells #[.int .i64 0, .int .i64 0, .int .i64 0, .slice none 0 0] 27 (0, 0)) (sqb BK258.out) NB258_0.out (by simp)); replace HK := Aside0.mk (KeepBut.trans z27_0 hk (.inl rfl)); replace HB := Aside0.mk (hb); replace HI0 := Aside0.mk (hi); (try clear hb); (try clear hk); (try clear hi); (try clear ho0); obtain ⟨Ao20, co20, eo20⟩ := Kd.N_slice HO278.out; subst eo20) | ((with_reducible refine gate_callee (f := 38) rfl ?_); refine goesL_ (some 23) rfl rfl Tryd.func38 sqk rfl #[.agg #[.int .i64 t273, .int .i64 t274, .int .i64 t275, .slice Ao20 t276.length co20]] rfl sqm ?_; (with_reducible refine (spec_CondNot.calls kj2 t273 t274 t275 _ _ t276 t281 t282 t283 t284 _ ?side1 ?side2 A17.out).mono ?_); (case side1 => repeat (first | exact (Kd.N_reads' HO278.out).2.2 | (with_reducible refine Kd.C_alloc ?_ _) | (with_reducible refine Kd.C_drewN ?_ _) | (with_reducible refine Kd.C_drew ?_))); (case side2 => exact (Kd.N_reads' HO278.out).2.1); rintro e w21 ⟨v285, rfl, ho0, hb⟩; refine ⟨_, rfl, ?_⟩; have HO286 := Aside0.mk (Kd.N_lower (Kd.N_mono (ok' := fun k_ => (w.heap.size ≤ k_) ∧ some k_ ≠ (.slice Ao20 t276.length co20 : Value).ownBlock ∧ k_ ≠ gb258 ∧ k_ ≠ g) ho0 (fun k_ hk_ => ⟨(Nat.le_trans (keep_size (w := w) (g := g) (row := none) z27_0) hk_), (Kd.fresh' (Kd.N_lt (by (with_reducible repeat (first | apply Kd.N_alloc | apply Kd.N_drewN | apply Kd.N_drew)); exact HO278.out)) k_ hk_), (Kd.freshB (bo BK258) k_ hk_), (IsS48.fresh sqi k_ hk_)⟩)) (keep_size (w := w) (g := g) (row := none) z27_0)); replace HO278 := Aside0.mk (Kd.N_elder' (by (with_reducible repeat (first | apply Kd.N_alloc | apply Kd.N_drewN | apply Kd.N_drew)); exact HO278.out) (Kd.N_base ho0) hb); replace BK258 := Aside0.mk (blk_below (bo BK258) hb); replace HK := Aside0.mk (KeepBut.trans z27_0 (KeepBut.of_below hb g none) (.inl rfl)); replace HB := Aside0.mk (below_step sqj hb); replace HI0 := Aside0.mk (IsS48.below sqi hb); (try clear hb); (try clear ho0); have hnb22 := NB258_0.out; have hnc22 := NB0_258.out; obtain ⟨hcz23_0, hcz23_1, hcz23_2, hcz23_3, hfz23_0, hfz23_1, hfz23_2, hfz23_3⟩ := sd4 BK258.out; obtain ⟨Ao24, co24, eo24⟩ := Kd.N_slice HO286.out; subst eo24))
     refine bodyPost_ret (results_cell_row rfl _ _ gb258 27 #[.int .i64 t281, .int .i64 t282, .int .i64 t283, .slice Ao24 t284.length co24] (0, 0) _ rfl ?_ Tryd.underlying27 rfl sqk) rfl ?_; exact bp BK258
     exact ⟨_, sqe, by (with_reducible repeat (first | apply Kd.N_alloc | apply Kd.N_drewN | apply Kd.N_drew)); exact Kd.N_mono (Kd.N_far (p := ⟨gb258, 3, none⟩) (Kd.N_far (p := ⟨gb258, 2, none⟩) (Kd.N_far (p := ⟨gb258, 1, none⟩) (Kd.N_far (p := ⟨gb258, 0, none⟩) (Kd.N_mono HO286.out (fun k_ hk => (⟨hk, hk.2.2.1⟩ : _ ∧ k_ ≠ gb258))) (fun _ hk => hk.2) (.int .i64 t281)) (fun _ hk => hk.2) (.int .i64 t282)) (fun _ hk => hk.2) (.int .i64 t283)) (fun _ hk => hk.2) (.slice Ao24 t284.length co24)) (fun _ hk => hk.1.1), sqi, sqj, by repeat (first | (with_reducible first | exact HK.out | apply KeepBut.set_ | apply keep_drewN | apply keep_drew | apply keep_alloc | refine keep_far ?_ GW258.out _) | exact HK.out)⟩
    ·rw [if_neg c15] at H
     have c15b0 : (t270 == 0) = false := beq_eq_false_iff_ne.mpr c15
     have c15b1 : (t270 != 0) = true := bne_iff_ne.mpr c15
     have HC25 := Aside0.mk H
     clear H
     go_upto_if 24 with (first | ((with_reducible refine gate_callee (f := 25) rfl ?_); refine goesL_ (some 16) rfl rfl Tryd.func25 sqk rfl #[.pointer (some ⟨g, 0, none⟩), .int .i64 5] rfl sqm ?_; (with_reducible refine (spec_l1Below.calls g s0_0 x1001_2 x1002_2 5 t270 t271 t272 w0 _ ?side1 ?side2 A14.out).mono ?_); (case side1 => exact sqi); (case side2 => exact sqj); rintro e w26 ⟨rfl, hi, hb, hk⟩; refine ⟨_, rfl, ?_⟩; replace BK258 := Aside0.mk (KeepBut.blk hk (g' := gb258) (o := .cells #[.int .i64 0, .int .i64 0, .int .i64 0, .slice none 0 0] 27 (0, 0)) (sqb BK258.out) NB258_0.out (by simp)); replace HK := Aside0.mk (KeepBut.trans z27_0 hk (.inl rfl)); replace HB := Aside0.mk (hb); replace HI0 := Aside0.mk (hi); (try clear hb); (try clear hk); (try clear hi)))
     (try simp only [Act.put, List.setIfInBounds_toArray, List.set_cons_zero, List.set_cons_succ])
     go_cut [24] (fun v24 wc => ∃ (kq : Nat) (x24_24 : Bool), v24 = .bool x24_24 ∧ Aside0 (spec_l15Cond.j1 kq a1 x24_24 s0_0 t271 t272 = some (r1, r2, r3, r4, r5, r6)) ∧ Aside0 (kq ≤ kj2) ∧ Aside0 (wc.heap[gb258]? = some (.cells #[.int .i64 0, .int .i64 0, .int .i64 0, (.slice none 0 0)] 27 (0, 0))) ∧ Aside0 (IsS48 w0 wc g s0_0 t271 t272) ∧ Aside0 (KeepBut w wc g none) ∧ Aside0 (Below w0.heap.size w0 wc))
     case first =>
      have H := HC25.out
      clear HC25
      by_cases c27 : t270 = 1
      ·rw [if_pos c27] at H
       have c27b0 : (t270 == 1) = true := beq_iff_eq.mpr c27
       have c27b1 : (t270 != 1) = false := bne_eq_false_iff_eq.mpr c27
       clear c27
       (first | rw [c27b0] | (simp only [i64_w, i32_w]; rw [c27b0]) | skip)
       have H' := Aside0.mk H
       clear H
       go_wp2
       go_meet
       case rel => exact ⟨_, ((t270 == 1)), sqr, H', ⟨by have := HJ2.out; first | omega | exact Nat.le_refl _⟩, ⟨sqb BK258.out⟩, ⟨sqi⟩, ⟨by repeat (first | (with_reducible first | exact HK.out | apply KeepBut.set_ | apply keep_drewN | apply keep_drew | apply keep_alloc | refine keep_far ?_ GW258.out _) | exact HK.out)⟩, ⟨sqj⟩⟩
      ·rw [if_neg c27] at H
       have c27b0 : (t270 == 1) = false := beq_eq_false_iff_ne.mpr c27
       have c27b1 : (t270 != 1) = true := bne_iff_ne.mpr c27
       (first | rw [c27b0] | (simp only [i64_w, i32_w]; rw [c27b0]) | skip)
       have H' := Aside0.mk H
       clear H
       go_wp2
       go_meet
       case rel => exact ⟨_, ((t270 == 2)), sqr, H', ⟨by have := HJ2.out; first | omega | exact Nat.le_refl _⟩, ⟨sqb BK258.out⟩, ⟨sqi⟩, ⟨by repeat (first | (with_reducible first | exact HK.out | apply KeepBut.set_ | apply keep_drewN | apply keep_drew | apply keep_alloc | refine keep_far ?_ GW258.out _) | exact HK.out)⟩, ⟨sqj⟩⟩
     case rest =>
      clear HC25; try clear c1; try clear c2; try clear p2; try clear c3; try clear c5; try clear c5b0; try clear p6; try clear c8; try clear c11; try clear c15; try clear c15b0; try clear c15b1; try clear c22; try clear c25; try clear c27; try clear c27b0; try clear c27b1; try clear hcz12_0; try clear hcz12_1; try clear hcz12_2; try clear hcz12_3; try clear hcz23_0; try clear hcz23_1; try clear hcz23_2; try clear hcz23_3; try clear hfz12_0; try clear hfz12_1; try clear hfz12_2; try clear hfz12_3; try clear hfz23_0; try clear hfz23_1; try clear hfz23_2; try clear hfz23_3; try clear p2
      obtain ⟨kq, x24_24, rfl, HA, HJ24, BK258, HI0, HK, HB⟩ := hcut
      cases kq with
      | zero => exact absurd HA.out (by simp [spec_l15Cond.j1])
      | succ kj24 =>
       have H := HA.out
       clear HA
       simp only [spec_l15Cond.j1] at H
       by_cases c28 : x24_24 = true
       ·subst c28
        replace H := iT H
        obtain ⟨⟨t287, t288, t289, t290, t293, t294⟩, A29, H⟩ := bA H
        dsimp only at H
        obtain ⟨⟨t296, t297, t298, t299, t302, t303⟩, A30, H⟩ := bA H
        dsimp only at H
        obtain ⟨⟨t304, t305, t306, t307⟩, A31, H⟩ := bA H
        dsimp only at H
        simp only [Option.some.injEq, Prod.mk.injEq] at H
        obtain ⟨rfl, rfl, rfl, rfl, rfl, rfl⟩ := H
        try go_wp2_with (first | ((with_reducible refine gate_callee (f := 27) rfl ?_); refine goesL_ (some 30) rfl rfl Tryd.func27 sqk rfl #[.pointer (some ⟨g, 0, none⟩), .int .i64 (wrap64 (a1 - 1))] rfl sqm ?_; (with_reducible refine (ih kj24 (by have := HJ2.out; have := HJ24.out; omega) g s0_0 t271 t272 (wrap64 (a1 - 1)) t287 t288 t289 t290 t293 t294 w0 _ ?side1 ?side2 A29.out).mono ?_); (case side1 => exact sqi); (case side2 => exact sqj); rintro e w32 ⟨v291, rfl, ho0, hi, hb, hk⟩; refine ⟨_, rfl, ?_⟩; have HO292 := Aside0.mk (Kd.N_lower (Kd.N_mono (ok' := fun k_ => (w.heap.size ≤ k_) ∧ k_ ≠ gb258 ∧ k_ ≠ g) ho0 (fun k_ hk_ => ⟨(Nat.le_trans (keep_size (w := w) (g := g) (row := none) z27_0) hk_), (Kd.freshB (bo BK258) k_ hk_), (IsS48.fresh sqi k_ hk_)⟩)) (keep_size (w := w) (g := g) (row := none) z27_0)); replace BK258 := Aside0.mk (KeepBut.blk hk (g' := gb258) (o := .cells #[.int .i64 0, .int .i64 0, .int .i64 0, .slice none 0 0] 27 (0, 0)) (sqb BK258.out) NB258_0.out (by simp)); replace HK := Aside0.mk (KeepBut.trans z27_0 hk (.inl rfl)); replace HB := Aside0.mk (hb); replace HI0 := Aside0.mk (hi); (try clear hb); (try clear hk); (try clear hi); (try clear ho0)) | ((with_reducible refine gate_dst (N := 5) rfl ?_); refine bx (N := 5) (cs := #[.int .i64 0, .int .i64 0, .int .i64 0, .slice none 0 0]) (t := 27) ?_; intro gb295 hg w33 hbox hb; replace HO292 := Aside0.mk (Kd.N_below (Kd.N_elderB z27_4 gb295 (Nat.le_of_eq hg.symm)) hb); replace HB := Aside0.mk (below_step sqj hb); have BK295 := Aside0.mk (hbox); have GW295 := Aside0.mk ((by rw [hg]; exact (keep_size (w := w) (g := g) (row := none) z27_0) : w.heap.size ≤ gb295)); have GE295 := Aside0.mk ((Nat.le_trans HW0.out (by rw [hg]; exact (keep_size (w := w) (g := g) (row := none) z27_0) : w.heap.size ≤ gb295) : w0.heap.size ≤ gb295)); replace HK := Aside0.mk (KeepBut.trans z27_0 (KeepBut.of_below hb g none) (.inl rfl)); have NB258_295 := Aside0.mk ((by rw [hg]; exact Nat.ne_of_lt (blk_lt (bo BK258)) : gb258 ≠ gb295)); have NB295_258 := Aside0.mk ((by rw [hg]; exact Nat.ne_of_gt (blk_lt (bo BK258)) : gb295 ≠ gb258)); replace BK258 := Aside0.mk (blk_below (bo BK258) hb); have NB0_295 := Aside0.mk ((by rw [hg]; exact Nat.ne_of_lt (IsS48.lt (show IsS48 w0 _ g s0_0 t293 t294 from sqi)) : g ≠ gb295)); have NB295_0 := Aside0.mk ((by rw [hg]; exact Nat.ne_of_gt (IsS48.lt (show IsS48 w0 _ g s0_0 t293 t294 from sqi)) : gb295 ≠ g)); replace HI0 := Aside0.mk (IsS48.below sqi hb); clear hb hbox hg; have hnb34 := NB295_258.out; have hnc34 := NB258_295.out; have hnb35 := NB295_0.out; have hnc35 := NB0_295.out; obtain ⟨hcz36_0, hcz36_1, hcz36_2, hcz36_3, hfz36_0, hfz36_1, hfz36_2, hfz36_3⟩ := sd4 BK295.out; obtain ⟨Ao37, co37, eo37⟩ := Kd.N_slice HO292.out; subst eo37))
        have n0_ : Aside0 (Kd.N k27 27 ((((w33.setCell ⟨gb295, 0, none⟩ (.int .i64 t287)).setCell ⟨gb295, 1, none⟩ (.int .i64 t288)).setCell ⟨gb295, 2, none⟩ (.int .i64 t289)).setCell ⟨gb295, 3, none⟩ (.slice Ao37 t290.length co37)) w.heap.size (fun k_ => (w.heap.size ≤ k_) ∧ k_ ≠ gb258 ∧ k_ ≠ g ∧ k_ ≠ gb295) (.slice Ao37 t290.length co37) t290) := ⟨by (with_reducible repeat (first | apply Kd.N_alloc | apply Kd.N_drewN | apply Kd.N_drew)); exact Kd.N_mono (Kd.N_far (p := ⟨gb295, 3, none⟩) (Kd.N_far (p := ⟨gb295, 2, none⟩) (Kd.N_far (p := ⟨gb295, 1, none⟩) (Kd.N_far (p := ⟨gb295, 0, none⟩) (Kd.N_mono HO292.out (fun k_ hk => (⟨hk, hk.2⟩ : _ ∧ k_ ≠ gb295))) (fun _ hk => hk.2) (.int .i64 t287)) (fun _ hk => hk.2) (.int .i64 t288)) (fun _ hk => hk.2) (.int .i64 t289)) (fun _ hk => hk.2) (.slice Ao37 t290.length co37)) (fun _ hk => ⟨hk.1.1.1, ⟨hk.1.1.2.1, ⟨hk.1.1.2.2, hk.1.2⟩⟩⟩)⟩
        have n1_ : Aside0 (((((w33.setCell ⟨gb295, 0, none⟩ (.int .i64 t287)).setCell ⟨gb295, 1, none⟩ (.int .i64 t288)).setCell ⟨gb295, 2, none⟩ (.int .i64 t289)).setCell ⟨gb295, 3, none⟩ (.slice Ao37 t290.length co37)).heap[gb258]? = some (.cells #[.int .i64 0, .int .i64 0, .int .i64 0, .slice none 0 0] 27 (0, 0))) := ⟨bp BK258⟩
        have n2_ : Aside0 (((((w33.setCell ⟨gb295, 0, none⟩ (.int .i64 t287)).setCell ⟨gb295, 1, none⟩ (.int .i64 t288)).setCell ⟨gb295, 2, none⟩ (.int .i64 t289)).setCell ⟨gb295, 3, none⟩ (.slice Ao37 t290.length co37)).heap[gb295]? = some (.cells #[.int .i64 t287, .int .i64 t288, .int .i64 t289, .slice Ao37 t290.length co37] 27 (0, 0))) := ⟨bp BK295⟩
        have n3_ : Aside0 (IsS48 w0 ((((w33.setCell ⟨gb295, 0, none⟩ (.int .i64 t287)).setCell ⟨gb295, 1, none⟩ (.int .i64 t288)).setCell ⟨gb295, 2, none⟩ (.int .i64 t289)).setCell ⟨gb295, 3, none⟩ (.slice Ao37 t290.length co37)) g s0_0 t293 t294) := ⟨sqi⟩
        have n4_ : Aside0 (KeepBut w ((((w33.setCell ⟨gb295, 0, none⟩ (.int .i64 t287)).setCell ⟨gb295, 1, none⟩ (.int .i64 t288)).setCell ⟨gb295, 2, none⟩ (.int .i64 t289)).setCell ⟨gb295, 3, none⟩ (.slice Ao37 t290.length co37)) g none) := ⟨by repeat (first | (with_reducible first | exact HK.out | apply KeepBut.set_ | apply keep_drewN | apply keep_drew | apply keep_alloc | refine keep_far ?_ GW258.out _ | refine keep_far ?_ GW295.out _) | exact HK.out)⟩
        have n5_ : Aside0 (Below w0.heap.size w0 ((((w33.setCell ⟨gb295, 0, none⟩ (.int .i64 t287)).setCell ⟨gb295, 1, none⟩ (.int .i64 t288)).setCell ⟨gb295, 2, none⟩ (.int .i64 t289)).setCell ⟨gb295, 3, none⟩ (.slice Ao37 t290.length co37))) := ⟨sqj⟩
        (try clear HO292)
        (try clear BK258)
        (try clear BK295)
        (try clear HI0)
        (try clear HK)
        (try clear HB)
        generalize ((((w33.setCell ⟨gb295, 0, none⟩ (.int .i64 t287)).setCell ⟨gb295, 1, none⟩ (.int .i64 t288)).setCell ⟨gb295, 2, none⟩ (.int .i64 t289)).setCell ⟨gb295, 3, none⟩ (.slice Ao37 t290.length co37)) = w38 at n0_ n1_ n2_ n3_ n4_ n5_ ⊢
        have HO292 := n0_
        have BK258 := n1_
        have BK295 := n2_
        have HI0 := n3_
        have HK := n4_
        have HB := n5_
        clear n0_ n1_ n2_ n3_ n4_ n5_
        replace HO292 := Aside0.mk (Kd.N_drew HO292.out)
        replace BK258 := Aside0.mk (blk_drew BK258.out)
        replace BK295 := Aside0.mk (blk_drew BK295.out)
        replace HI0 := Aside0.mk (IsS48.drew HI0.out)
        replace HK := Aside0.mk (keep_drew HK.out)
        replace HB := Aside0.mk (below_drew1 HB.out)
        refine start_ (n := 7) (S := fun w' => w'.cell? ⟨gb295, 0, none⟩ = some (.int .i64 t287) ∧ w'.cell? ⟨gb295, 1, none⟩ = some (.int .i64 t288) ∧ w'.cell? ⟨gb295, 2, none⟩ = some (.int .i64 t289) ∧ w'.cell? ⟨gb295, 3, none⟩ = some (.slice Ao37 t290.length co37)) (ds := []) #[false, false, false, false, false, false, false] sqk rfl rfl (sc4 BK295.out) (fun hHeld => ?_)
        generalize w38.drew = w39 at HO292 BK258 BK295 HI0 HK HB hHeld ⊢
        refine pu 1 32 ?_; refine pu 2 33 ?_; refine pu 3 34 ?_; refine ta 0 31 ?_
        refine on 4 (some 35) (fun K hK => ?_)
        refine goes_ Tryd.func27 sqk rfl #[.pointer (some ⟨g, 0, none⟩), .int .i64 (wrap64 (a1 - 1))] (by rfl) rfl rfl sqm ?_
        with_reducible refine (ih kj24 (by have := HJ2.out; have := HJ24.out; omega) g s0_0 t293 t294 (wrap64 (a1 - 1)) t296 t297 t298 t299 t302 t303 w0 _ ?side1 ?side2 A30.out).mono ?_
        (case side1 => exact sqi)
        (case side2 => exact sqj)
        rintro e w40 ⟨v300, rfl, ho0, hi, hb, hk⟩
        refine ⟨_, rfl, ?_⟩
        have HO301 := Aside0.mk (Kd.N_lower (Kd.N_mono (ok' := fun k_ => (w.heap.size ≤ k_) ∧ some k_ ≠ (.slice Ao37 t290.length co37 : Value).ownBlock ∧ k_ ≠ gb258 ∧ k_ ≠ gb295 ∧ k_ ≠ g) ho0 (fun k_ hk_ => ⟨(Nat.le_trans (keep_size (w := w) (g := g) (row := none) z27_2) hk_), (Kd.fresh' (Kd.N_lt z27_4) k_ hk_), (Kd.freshB (bo BK258) k_ hk_), (Kd.freshB (bo BK295) k_ hk_), (IsS48.fresh sqi k_ hk_)⟩)) (keep_size (w := w) (g := g) (row := none) z27_2))
        replace BK258 := Aside0.mk (KeepBut.blk hk (g' := gb258) (o := .cells #[.int .i64 0, .int .i64 0, .int .i64 0, .slice none 0 0] 27 (0, 0)) (sqb BK258.out) NB258_0.out (by simp))
        replace HO292 := Aside0.mk (Kd.N_mono (Kd.N_told (Kd.N_oldK (Kd.N_mono (ok := fun k_ => (((w.heap.size ≤ k_)) ∧ (k_ ≠ gb258 ∧ (k_ ≠ g ∧ k_ ≠ gb295)))) z27_4 (fun k_ hk_ => (⟨hk_, hk_.2.2.1⟩ : _ ∧ k_ ≠ g))) hk) (Kd.N_base ho0)) (fun _ h_ => h_.1))
        replace BK295 := Aside0.mk (KeepBut.blk hk (g' := gb295) (o := .cells #[.int .i64 t287, .int .i64 t288, .int .i64 t289, .slice Ao37 t290.length co37] 27 (0, 0)) (sqb BK295.out) NB295_0.out (by simp))
        replace HK := Aside0.mk (KeepBut.trans z27_2 hk (.inl rfl))
        replace HB := Aside0.mk (hb)
        replace HI0 := Aside0.mk (hi)
        (try clear hb)
        (try clear hb2)
        (try clear hk)
        (try clear hi)
        (try clear ho0)
        obtain ⟨Ao41, co41, eo41⟩ := Kd.N_slice HO301.out
        (first | subst eo41 | (injection eo41 with f1_ f2_ f3_; have f4_ := f1_.symm; have f5_ := f3_.symm; clear f1_ f2_ f3_; subst f4_; subst f5_))
        refine hK.out _ _ (sc4 BK295.out) (fun hHeld => ?_)
        clear hK K; refine no 35 ?_
        refine on 5 (some 36) (fun K hK => ?_)
        refine goes_ Tryd.func47 sqk rfl #[.agg #[.int .i64 t287, .int .i64 t288, .int .i64 t289, .slice Ao37 t290.length co37], .agg #[.int .i64 t296, .int .i64 t297, .int .i64 t298, .slice Ao41 t299.length co41]] (by rfl) rfl rfl sqm ?_
        with_reducible refine (spec_CondAnd.calls kj24 t287 t288 t289 _ _ t290 t296 t297 t298 _ _ t299 t304 t305 t306 t307 _ ?side1 ?side2 ?side3 ?side4 A31.out).mono ?_
        (case side1 => repeat (first | exact (Kd.N_reads' HO292.out).2.2 | (with_reducible refine Kd.C_alloc ?_ _) | (with_reducible refine Kd.C_drewN ?_ _) | (with_reducible refine Kd.C_drew ?_)))
        (case side2 => exact (Kd.N_reads' HO292.out).2.1)
        (case side3 => repeat (first | exact (Kd.N_reads' HO301.out).2.2 | (with_reducible refine Kd.C_alloc ?_ _) | (with_reducible refine Kd.C_drewN ?_ _) | (with_reducible refine Kd.C_drew ?_)))
        (case side4 => exact (Kd.N_reads' HO301.out).2.1)
        rintro e w42 ⟨v308, rfl, ho0, hb⟩
        refine ⟨_, rfl, ?_⟩
        have HO309 := Aside0.mk (Kd.N_lower (Kd.N_mono (ok' := fun k_ => (w.heap.size ≤ k_) ∧ some k_ ≠ (.slice Ao37 t290.length co37 : Value).ownBlock ∧ some k_ ≠ (.slice Ao41 t299.length co41 : Value).ownBlock ∧ k_ ≠ gb258 ∧ k_ ≠ gb295 ∧ k_ ≠ g) ho0 (fun k_ hk_ => ⟨(Nat.le_trans (keep_size (w := w) (g := g) (row := none) z27_2) hk_), (Kd.fresh' (Kd.N_lt z27_4) k_ hk_), (Kd.fresh' (Kd.N_lt (by (with_reducible repeat (first | apply Kd.N_alloc | apply Kd.N_drewN | apply Kd.N_drew)); exact HO301.out)) k_ hk_), (Kd.freshB (bo BK258) k_ hk_), (Kd.freshB (bo BK295) k_ hk_), (IsS48.fresh sqi k_ hk_)⟩)) (keep_size (w := w) (g := g) (row := none) z27_2))
        replace HO292 := Aside0.mk (Kd.N_elder' z27_4 (Kd.N_base ho0) hb)
        replace HO301 := Aside0.mk (Kd.N_elder' (by (with_reducible repeat (first | apply Kd.N_alloc | apply Kd.N_drewN | apply Kd.N_drew)); exact HO301.out) (Kd.N_base ho0) hb)
        replace BK258 := Aside0.mk (blk_below (bo BK258) hb)
        replace BK295 := Aside0.mk (blk_below (bo BK295) hb)
        replace HK := Aside0.mk (KeepBut.trans z27_2 (KeepBut.of_below hb g none) (.inl rfl))
        replace HB := Aside0.mk (below_step sqj hb)
        replace HI0 := Aside0.mk (IsS48.below sqi hb)
        (try clear hb)
        (try clear hb2)
        (try clear hk)
        (try clear hi)
        (try clear ho0)
        obtain ⟨Ao46, co46, eo46⟩ := Kd.N_slice HO309.out
        (first | subst eo46 | (injection eo46 with f1_ f2_ f3_; have f4_ := f1_.symm; have f5_ := f3_.symm; clear f1_ f2_ f3_; subst f4_; subst f5_))
        refine hK.out _ _ (sc4 BK295.out) (fun hHeld => ?_)
        clear hK K; refine no 36 ?_
        refine on 6 none (fun K hK => ?_)
        obtain ⟨hs43, hfs43⟩ := sd1 BK258.out
        have hns43_1 := NB295_258.out
        have hms43_1 := NB258_295.out
        have hs44 : w42.cell? ⟨gb258, 1, none⟩ = some (.int .i64 0) := (blk_cell BK258.out 1).trans rfl
        have hfs44 := blk_frozen BK258.out 1
        have hns44_1 := NB295_258.out
        have hms44_1 := NB258_295.out
        have hs45 : w42.cell? ⟨gb258, 2, none⟩ = some (.int .i64 0) := (blk_cell BK258.out 2).trans rfl
        have hfs45 := blk_frozen BK258.out 2
        have hns45_1 := NB295_258.out
        have hms45_1 := NB258_295.out
        have hs47 : w42.cell? ⟨gb258, 3, none⟩ = some (.slice none 0 0) := (blk_cell BK258.out 3).trans rfl
        have hfs47 := blk_frozen BK258.out 3
        have hns47_1 := NB295_258.out
        have hms47_1 := NB258_295.out
        refine skip_ (w1 := ?_) (by rfl) rfl ?_ ?_
        rotate_left
        ·go_simp
         rfl
        refine hK.out _ _ ⟨((cell_far (p := ⟨gb258, _, none⟩) NB295_258.out _).trans (((cell_far (p := ⟨gb258, _, none⟩) NB295_258.out _).trans (((cell_far (p := ⟨gb258, _, none⟩) NB295_258.out _).trans (((cell_far (p := ⟨gb258, _, none⟩) NB295_258.out _).trans (hHeld.1)))))))), ((cell_far (p := ⟨gb258, _, none⟩) NB295_258.out _).trans (((cell_far (p := ⟨gb258, _, none⟩) NB295_258.out _).trans (((cell_far (p := ⟨gb258, _, none⟩) NB295_258.out _).trans (((cell_far (p := ⟨gb258, _, none⟩) NB295_258.out _).trans (hHeld.2.1)))))))), ((cell_far (p := ⟨gb258, _, none⟩) NB295_258.out _).trans (((cell_far (p := ⟨gb258, _, none⟩) NB295_258.out _).trans (((cell_far (p := ⟨gb258, _, none⟩) NB295_258.out _).trans (((cell_far (p := ⟨gb258, _, none⟩) NB295_258.out _).trans (hHeld.2.2.1)))))))), ((cell_far (p := ⟨gb258, _, none⟩) NB295_258.out _).trans (((cell_far (p := ⟨gb258, _, none⟩) NB295_258.out _).trans (((cell_far (p := ⟨gb258, _, none⟩) NB295_258.out _).trans (((cell_far (p := ⟨gb258, _, none⟩) NB295_258.out _).trans (hHeld.2.2.2))))))))⟩ (fun hHeld => ?_)
        clear hK K
        refine dn ?_
        try go_wp2
        refine bodyPost_ret (results_cell_row rfl _ _ gb258 27 #[.int .i64 t304, .int .i64 t305, .int .i64 t306, .slice Ao46 t307.length co46] (0, 0) _ rfl ?_ Tryd.underlying27 rfl sqk) rfl ?_; exact bp BK258
        exact ⟨_, sqe, by (with_reducible repeat (first | apply Kd.N_alloc | apply Kd.N_drewN | apply Kd.N_drew)); exact Kd.N_mono (Kd.N_far (p := ⟨gb258, 3, none⟩) (Kd.N_far (p := ⟨gb258, 2, none⟩) (Kd.N_far (p := ⟨gb258, 1, none⟩) (Kd.N_far (p := ⟨gb258, 0, none⟩) (Kd.N_mono HO309.out (fun k_ hk => (⟨hk, hk.2.2.2.1⟩ : _ ∧ k_ ≠ gb258))) (fun _ hk => hk.2) (.int .i64 t304)) (fun _ hk => hk.2) (.int .i64 t305)) (fun _ hk => hk.2) (.int .i64 t306)) (fun _ hk => hk.2) (.slice Ao46 t307.length co46)) (fun _ hk => hk.1.1), sqi, sqj, by repeat (first | (with_reducible first | exact HK.out | apply KeepBut.set_ | apply keep_drewN | apply keep_drew | apply keep_alloc | refine keep_far ?_ GW258.out _ | refine keep_far ?_ GW295.out _) | exact HK.out)⟩
       ·replace c28 := Bool.eq_false_iff.mpr c28
        subst c28
        replace H := iF H
        obtain ⟨⟨t310, t311, t312, t313, t316, t317⟩, A48, H⟩ := bA H
        dsimp only at H
        obtain ⟨⟨t319, t320, t321, t322, t325, t326⟩, A49, H⟩ := bA H
        dsimp only at H
        obtain ⟨⟨t327, t328, t329, t330⟩, A50, H⟩ := bA H
        dsimp only at H
        simp only [Option.some.injEq, Prod.mk.injEq] at H
        obtain ⟨rfl, rfl, rfl, rfl, rfl, rfl⟩ := H
        try go_wp2_with (first | ((with_reducible refine gate_callee (f := 27) rfl ?_); refine goesL_ (some 40) rfl rfl Tryd.func27 sqk rfl #[.pointer (some ⟨g, 0, none⟩), .int .i64 (wrap64 (a1 - 1))] rfl sqm ?_; (with_reducible refine (ih kj24 (by have := HJ2.out; have := HJ24.out; omega) g s0_0 t271 t272 (wrap64 (a1 - 1)) t310 t311 t312 t313 t316 t317 w0 _ ?side1 ?side2 A48.out).mono ?_); (case side1 => exact sqi); (case side2 => exact sqj); rintro e w51 ⟨v314, rfl, ho0, hi, hb, hk⟩; refine ⟨_, rfl, ?_⟩; have HO315 := Aside0.mk (Kd.N_lower (Kd.N_mono (ok' := fun k_ => (w.heap.size ≤ k_) ∧ k_ ≠ gb258 ∧ k_ ≠ g) ho0 (fun k_ hk_ => ⟨(Nat.le_trans (keep_size (w := w) (g := g) (row := none) z27_0) hk_), (Kd.freshB (bo BK258) k_ hk_), (IsS48.fresh sqi k_ hk_)⟩)) (keep_size (w := w) (g := g) (row := none) z27_0)); replace BK258 := Aside0.mk (KeepBut.blk hk (g' := gb258) (o := .cells #[.int .i64 0, .int .i64 0, .int .i64 0, .slice none 0 0] 27 (0, 0)) (sqb BK258.out) NB258_0.out (by simp)); replace HK := Aside0.mk (KeepBut.trans z27_0 hk (.inl rfl)); replace HB := Aside0.mk (hb); replace HI0 := Aside0.mk (hi); (try clear hb); (try clear hk); (try clear hi); (try clear ho0)) | ((with_reducible refine gate_dst (N := 6) rfl ?_); refine bx (N := 6) (cs := #[.int .i64 0, .int .i64 0, .int .i64 0, .slice none 0 0]) (t := 27) ?_; intro gb318 hg w52 hbox hb; replace HO315 := Aside0.mk (Kd.N_below (Kd.N_elderB z27_3 gb318 (Nat.le_of_eq hg.symm)) hb); replace HB := Aside0.mk (below_step sqj hb); have BK318 := Aside0.mk (hbox); have GW318 := Aside0.mk ((by rw [hg]; exact (keep_size (w := w) (g := g) (row := none) z27_0) : w.heap.size ≤ gb318)); have GE318 := Aside0.mk ((Nat.le_trans HW0.out (by rw [hg]; exact (keep_size (w := w) (g := g) (row := none) z27_0) : w.heap.size ≤ gb318) : w0.heap.size ≤ gb318)); replace HK := Aside0.mk (KeepBut.trans z27_0 (KeepBut.of_below hb g none) (.inl rfl)); have NB258_318 := Aside0.mk ((by rw [hg]; exact Nat.ne_of_lt (blk_lt (bo BK258)) : gb258 ≠ gb318)); have NB318_258 := Aside0.mk ((by rw [hg]; exact Nat.ne_of_gt (blk_lt (bo BK258)) : gb318 ≠ gb258)); replace BK258 := Aside0.mk (blk_below (bo BK258) hb); have NB0_318 := Aside0.mk ((by rw [hg]; exact Nat.ne_of_lt (IsS48.lt (show IsS48 w0 _ g s0_0 t316 t317 from sqi)) : g ≠ gb318)); have NB318_0 := Aside0.mk ((by rw [hg]; exact Nat.ne_of_gt (IsS48.lt (show IsS48 w0 _ g s0_0 t316 t317 from sqi)) : gb318 ≠ g)); replace HI0 := Aside0.mk (IsS48.below sqi hb); clear hb hbox hg; have hnb53 := NB318_258.out; have hnc53 := NB258_318.out; have hnb54 := NB318_0.out; have hnc54 := NB0_318.out; obtain ⟨hcz55_0, hcz55_1, hcz55_2, hcz55_3, hfz55_0, hfz55_1, hfz55_2, hfz55_3⟩ := sd4 BK318.out; obtain ⟨Ao56, co56, eo56⟩ := Kd.N_slice HO315.out; subst eo56))
        have n0_ : Aside0 (Kd.N k27 27 ((((w52.setCell ⟨gb318, 0, none⟩ (.int .i64 t310)).setCell ⟨gb318, 1, none⟩ (.int .i64 t311)).setCell ⟨gb318, 2, none⟩ (.int .i64 t312)).setCell ⟨gb318, 3, none⟩ (.slice Ao56 t313.length co56)) w.heap.size (fun k_ => (w.heap.size ≤ k_) ∧ k_ ≠ gb258 ∧ k_ ≠ g ∧ k_ ≠ gb318) (.slice Ao56 t313.length co56) t313) := ⟨by (with_reducible repeat (first | apply Kd.N_alloc | apply Kd.N_drewN | apply Kd.N_drew)); exact Kd.N_mono (Kd.N_far (p := ⟨gb318, 3, none⟩) (Kd.N_far (p := ⟨gb318, 2, none⟩) (Kd.N_far (p := ⟨gb318, 1, none⟩) (Kd.N_far (p := ⟨gb318, 0, none⟩) (Kd.N_mono HO315.out (fun k_ hk => (⟨hk, hk.2⟩ : _ ∧ k_ ≠ gb318))) (fun _ hk => hk.2) (.int .i64 t310)) (fun _ hk => hk.2) (.int .i64 t311)) (fun _ hk => hk.2) (.int .i64 t312)) (fun _ hk => hk.2) (.slice Ao56 t313.length co56)) (fun _ hk => ⟨hk.1.1.1, ⟨hk.1.1.2.1, ⟨hk.1.1.2.2, hk.1.2⟩⟩⟩)⟩
        have n1_ : Aside0 (((((w52.setCell ⟨gb318, 0, none⟩ (.int .i64 t310)).setCell ⟨gb318, 1, none⟩ (.int .i64 t311)).setCell ⟨gb318, 2, none⟩ (.int .i64 t312)).setCell ⟨gb318, 3, none⟩ (.slice Ao56 t313.length co56)).heap[gb258]? = some (.cells #[.int .i64 0, .int .i64 0, .int .i64 0, .slice none 0 0] 27 (0, 0))) := ⟨bp BK258⟩
        have n2_ : Aside0 (((((w52.setCell ⟨gb318, 0, none⟩ (.int .i64 t310)).setCell ⟨gb318, 1, none⟩ (.int .i64 t311)).setCell ⟨gb318, 2, none⟩ (.int .i64 t312)).setCell ⟨gb318, 3, none⟩ (.slice Ao56 t313.length co56)).heap[gb318]? = some (.cells #[.int .i64 t310, .int .i64 t311, .int .i64 t312, .slice Ao56 t313.length co56] 27 (0, 0))) := ⟨bp BK318⟩
        have n3_ : Aside0 (IsS48 w0 ((((w52.setCell ⟨gb318, 0, none⟩ (.int .i64 t310)).setCell ⟨gb318, 1, none⟩ (.int .i64 t311)).setCell ⟨gb318, 2, none⟩ (.int .i64 t312)).setCell ⟨gb318, 3, none⟩ (.slice Ao56 t313.length co56)) g s0_0 t316 t317) := ⟨sqi⟩
        have n4_ : Aside0 (KeepBut w ((((w52.setCell ⟨gb318, 0, none⟩ (.int .i64 t310)).setCell ⟨gb318, 1, none⟩ (.int .i64 t311)).setCell ⟨gb318, 2, none⟩ (.int .i64 t312)).setCell ⟨gb318, 3, none⟩ (.slice Ao56 t313.length co56)) g none) := ⟨by repeat (first | (with_reducible first | exact HK.out | apply KeepBut.set_ | apply keep_drewN | apply keep_drew | apply keep_alloc | refine keep_far ?_ GW258.out _ | refine keep_far ?_ GW318.out _) | exact HK.out)⟩
        have n5_ : Aside0 (Below w0.heap.size w0 ((((w52.setCell ⟨gb318, 0, none⟩ (.int .i64 t310)).setCell ⟨gb318, 1, none⟩ (.int .i64 t311)).setCell ⟨gb318, 2, none⟩ (.int .i64 t312)).setCell ⟨gb318, 3, none⟩ (.slice Ao56 t313.length co56))) := ⟨sqj⟩
        (try clear HO315)
        (try clear BK258)
        (try clear BK318)
        (try clear HI0)
        (try clear HK)
        (try clear HB)
        generalize ((((w52.setCell ⟨gb318, 0, none⟩ (.int .i64 t310)).setCell ⟨gb318, 1, none⟩ (.int .i64 t311)).setCell ⟨gb318, 2, none⟩ (.int .i64 t312)).setCell ⟨gb318, 3, none⟩ (.slice Ao56 t313.length co56)) = w57 at n0_ n1_ n2_ n3_ n4_ n5_ ⊢
        have HO315 := n0_
        have BK258 := n1_
        have BK318 := n2_
        have HI0 := n3_
        have HK := n4_
        have HB := n5_
        clear n0_ n1_ n2_ n3_ n4_ n5_
        replace HO315 := Aside0.mk (Kd.N_drew HO315.out)
        replace BK258 := Aside0.mk (blk_drew BK258.out)
        replace BK318 := Aside0.mk (blk_drew BK318.out)
        replace HI0 := Aside0.mk (IsS48.drew HI0.out)
        replace HK := Aside0.mk (keep_drew HK.out)
        replace HB := Aside0.mk (below_drew1 HB.out)
        refine start_ (n := 7) (S := fun w' => w'.cell? ⟨gb318, 0, none⟩ = some (.int .i64 t310) ∧ w'.cell? ⟨gb318, 1, none⟩ = some (.int .i64 t311) ∧ w'.cell? ⟨gb318, 2, none⟩ = some (.int .i64 t312) ∧ w'.cell? ⟨gb318, 3, none⟩ = some (.slice Ao56 t313.length co56)) (ds := []) #[false, false, false, false, false, false, false] sqk rfl rfl (sc4 BK318.out) (fun hHeld => ?_)
        generalize w57.drew = w58 at HO315 BK258 BK318 HI0 HK HB hHeld ⊢
        refine pu 1 42 ?_; refine pu 2 43 ?_; refine pu 3 44 ?_; refine ta 0 41 ?_
        refine on 4 (some 45) (fun K hK => ?_)
        refine goes_ Tryd.func27 sqk rfl #[.pointer (some ⟨g, 0, none⟩), .int .i64 (wrap64 (a1 - 1))] (by rfl) rfl rfl sqm ?_
        with_reducible refine (ih kj24 (by have := HJ2.out; have := HJ24.out; omega) g s0_0 t316 t317 (wrap64 (a1 - 1)) t319 t320 t321 t322 t325 t326 w0 _ ?side1 ?side2 A49.out).mono ?_
        (case side1 => exact sqi)
        (case side2 => exact sqj)
        rintro e w59 ⟨v323, rfl, ho0, hi, hb, hk⟩
        refine ⟨_, rfl, ?_⟩
        have HO324 := Aside0.mk (Kd.N_lower (Kd.N_mono (ok' := fun k_ => (w.heap.size ≤ k_) ∧ some k_ ≠ (.slice Ao56 t313.length co56 : Value).ownBlock ∧ k_ ≠ gb258 ∧ k_ ≠ gb318 ∧ k_ ≠ g) ho0 (fun k_ hk_ => ⟨(Nat.le_trans (keep_size (w := w) (g := g) (row := none) z27_1) hk_), (Kd.fresh' (Kd.N_lt z27_3) k_ hk_), (Kd.freshB (bo BK258) k_ hk_), (Kd.freshB (bo BK318) k_ hk_), (IsS48.fresh sqi k_ hk_)⟩)) (keep_size (w := w) (g := g) (row := none) z27_1))
        replace BK258 := Aside0.mk (KeepBut.blk hk (g' := gb258) (o := .cells #[.int .i64 0, .int .i64 0, .int .i64 0, .slice none 0 0] 27 (0, 0)) (sqb BK258.out) NB258_0.out (by simp))
        replace HO315 := Aside0.mk (Kd.N_mono (Kd.N_told (Kd.N_oldK (Kd.N_mono (ok := fun k_ => (((w.heap.size ≤ k_)) ∧ (k_ ≠ gb258 ∧ (k_ ≠ g ∧ k_ ≠ gb318)))) z27_3 (fun k_ hk_ => (⟨hk_, hk_.2.2.1⟩ : _ ∧ k_ ≠ g))) hk) (Kd.N_base ho0)) (fun _ h_ => h_.1))
        replace BK318 := Aside0.mk (KeepBut.blk hk (g' := gb318) (o := .cells #[.int .i64 t310, .int .i64 t311, .int .i64 t312, .slice Ao56 t313.length co56] 27 (0, 0)) (sqb BK318.out) NB318_0.out (by simp))
        replace HK := Aside0.mk (KeepBut.trans z27_1 hk (.inl rfl))
        replace HB := Aside0.mk (hb)
        replace HI0 := Aside0.mk (hi)
        (try clear hb)
        (try clear hb2)
        (try clear hk)
        (try clear hi)
        (try clear ho0)
        obtain ⟨Ao60, co60, eo60⟩ := Kd.N_slice HO324.out
        (first | subst eo60 | (injection eo60 with f1_ f2_ f3_; have f4_ := f1_.symm; have f5_ := f3_.symm; clear f1_ f2_ f3_; subst f4_; subst f5_))
        refine hK.out _ _ (sc4 BK318.out) (fun hHeld => ?_)
        clear hK K; refine no 45 ?_
        refine on 5 (some 46) (fun K hK => ?_)
        refine goes_ Tryd.func48 sqk rfl #[.agg #[.int .i64 t310, .int .i64 t311, .int .i64 t312, .slice Ao56 t313.length co56], .agg #[.int .i64 t319, .int .i64 t320, .int .i64 t321, .slice Ao60 t322.length co60]] (by rfl) rfl rfl sqm ?_
        with_reducible refine (spec_CondOr.calls kj24 t310 t311 t312 _ _ t313 t319 t320 t321 _ _ t322 t327 t328 t329 t330 _ ?side1 ?side2 ?side3 ?side4 A50.out).mono ?_
        (case side1 => repeat (first | exact (Kd.N_reads' HO315.out).2.2 | (with_reducible refine Kd.C_alloc ?_ _) | (with_reducible refine Kd.C_drewN ?_ _) | (with_reducible refine Kd.C_drew ?_)))
        (case side2 => exact (Kd.N_reads' HO315.out).2.1)
        (case side3 => repeat (first | exact (Kd.N_reads' HO324.out).2.2 | (with_reducible refine Kd.C_alloc ?_ _) | (with_reducible refine Kd.C_drewN ?_ _) | (with_reducible refine Kd.C_drew ?_)))
        (case side4 => exact (Kd.N_reads' HO324.out).2.1)
        rintro e w61 ⟨v331, rfl, ho0, hb⟩
        refine ⟨_, rfl, ?_⟩
        have HO332 := Aside0.mk (Kd.N_lower (Kd.N_mono (ok' := fun k_ => (w.heap.size ≤ k_) ∧ some k_ ≠ (.slice Ao56 t313.length co56 : Value).ownBlock ∧ some k_ ≠ (.slice Ao60 t322.length co60 : Value).ownBlock ∧ k_ ≠ gb258 ∧ k_ ≠ gb318 ∧ k_ ≠ g) ho0 (fun k_ hk_ => ⟨(Nat.le_trans (keep_size (w := w) (g := g) (row := none) z27_1) hk_), (Kd.fresh' (Kd.N_lt z27_3) k_ hk_), (Kd.fresh' (Kd.N_lt (by (with_reducible repeat (first | apply Kd.N_alloc | apply Kd.N_drewN | apply Kd.N_drew)); exact HO324.out)) k_ hk_), (Kd.freshB (bo BK258) k_ hk_), (Kd.freshB (bo BK318) k_ hk_), (IsS48.fresh sqi k_ hk_)⟩)) (keep_size (w := w) (g := g) (row := none) z27_1))
        replace HO315 := Aside0.mk (Kd.N_elder' z27_3 (Kd.N_base ho0) hb)
        replace HO324 := Aside0.mk (Kd.N_elder' (by (with_reducible repeat (first | apply Kd.N_alloc | apply Kd.N_drewN | apply Kd.N_drew)); exact HO324.out) (Kd.N_base ho0) hb)
        replace BK258 := Aside0.mk (blk_below (bo BK258) hb)
        replace BK318 := Aside0.mk (blk_below (bo BK318) hb)
        replace HK := Aside0.mk (KeepBut.trans z27_1 (KeepBut.of_below hb g none) (.inl rfl))
        replace HB := Aside0.mk (below_step sqj hb)
        replace HI0 := Aside0.mk (IsS48.below sqi hb)
        (try clear hb)
        (try clear hb2)
        (try clear hk)
        (try clear hi)
        (try clear ho0)
        obtain ⟨Ao65, co65, eo65⟩ := Kd.N_slice HO332.out
        (first | subst eo65 | (injection eo65 with f1_ f2_ f3_; have f4_ := f1_.symm; have f5_ := f3_.symm; clear f1_ f2_ f3_; subst f4_; subst f5_))
        refine hK.out _ _ (sc4 BK318.out) (fun hHeld => ?_)
        clear hK K; refine no 46 ?_
        refine on 6 none (fun K hK => ?_)
        obtain ⟨hs62, hfs62⟩ := sd1 BK258.out
        have hns62_1 := NB318_258.out
        have hms62_1 := NB258_318.out
        have hs63 : w61.cell? ⟨gb258, 1, none⟩ = some (.int .i64 0) := (blk_cell BK258.out 1).trans rfl
        have hfs63 := blk_frozen BK258.out 1
        have hns63_1 := NB318_258.out
        have hms63_1 := NB258_318.out
        have hs64 : w61.cell? ⟨gb258, 2, none⟩ = some (.int .i64 0) := (blk_cell BK258.out 2).trans rfl
        have hfs64 := blk_frozen BK258.out 2
        have hns64_1 := NB318_258.out
        have hms64_1 := NB258_318.out
        have hs66 : w61.cell? ⟨gb258, 3, none⟩ = some (.slice none 0 0) := (blk_cell BK258.out 3).trans rfl
        have hfs66 := blk_frozen BK258.out 3
        have hns66_1 := NB318_258.out
        have hms66_1 := NB258_318.out
        refine skip_ (w1 := ?_) (by rfl) rfl ?_ ?_
        rotate_left
        ·go_simp
         rfl
        refine hK.out _ _ ⟨((cell_far (p := ⟨gb258, _, none⟩) NB318_258.out _).trans (((cell_far (p := ⟨gb258, _, none⟩) NB318_258.out _).trans (((cell_far (p := ⟨gb258, _, none⟩) NB318_258.out _).trans (((cell_far (p := ⟨gb258, _, none⟩) NB318_258.out _).trans (hHeld.1)))))))), ((cell_far (p := ⟨gb258, _, none⟩) NB318_258.out _).trans (((cell_far (p := ⟨gb258, _, none⟩) NB318_258.out _).trans (((cell_far (p := ⟨gb258, _, none⟩) NB318_258.out _).trans (((cell_far (p := ⟨gb258, _, none⟩) NB318_258.out _).trans (hHeld.2.1)))))))), ((cell_far (p := ⟨gb258, _, none⟩) NB318_258.out _).trans (((cell_far (p := ⟨gb258, _, none⟩) NB318_258.out _).trans (((cell_far (p := ⟨gb258, _, none⟩) NB318_258.out _).trans (((cell_far (p := ⟨gb258, _, none⟩) NB318_258.out _).trans (hHeld.2.2.1)))))))), ((cell_far (p := ⟨gb258, _, none⟩) NB318_258.out _).trans (((cell_far (p := ⟨gb258, _, none⟩) NB318_258.out _).trans (((cell_far (p := ⟨gb258, _, none⟩) NB318_258.out _).trans (((cell_far (p := ⟨gb258, _, none⟩) NB318_258.out _).trans (hHeld.2.2.2))))))))⟩ (fun hHeld => ?_)
        clear hK K
        refine dn ?_
        try go_wp2
        refine bodyPost_ret (results_cell_row rfl _ _ gb258 27 #[.int .i64 t327, .int .i64 t328, .int .i64 t329, .slice Ao65 t330.length co65] (0, 0) _ rfl ?_ Tryd.underlying27 rfl sqk) rfl ?_; exact bp BK258
        exact ⟨_, sqe, by (with_reducible repeat (first | apply Kd.N_alloc | apply Kd.N_drewN | apply Kd.N_drew)); exact Kd.N_mono (Kd.N_far (p := ⟨gb258, 3, none⟩) (Kd.N_far (p := ⟨gb258, 2, none⟩) (Kd.N_far (p := ⟨gb258, 1, none⟩) (Kd.N_far (p := ⟨gb258, 0, none⟩) (Kd.N_mono HO332.out (fun k_ hk => (⟨hk, hk.2.2.2.1⟩ : _ ∧ k_ ≠ gb258))) (fun _ hk => hk.2) (.int .i64 t327)) (fun _ hk => hk.2) (.int .i64 t328)) (fun _ hk => hk.2) (.int .i64 t329)) (fun _ hk => hk.2) (.slice Ao65 t330.length co65)) (fun _ hk => hk.1.1), sqi, sqj, by repeat (first | (with_reducible first | exact HK.out | apply KeepBut.set_ | apply keep_drewN | apply keep_drew | apply keep_alloc | refine keep_far ?_ GW258.out _ | refine keep_far ?_ GW318.out _) | exact HK.out)⟩

end Go.Proofs.YtilcmgdjfhhcdaaDoor.XFnTexts
