/- Written by this session's own program (wip/xprint, which runs over the kit's print): what the functions that the law reaches come to, each proved; and the law's row. Conditions: none. -/
import Derived.Test.YtilcmgdjfhhcdaaDoorUFnTextsSq
import Derived.Test.YtilcmgdjfhhcdaaDoorUFnTextsx0
import Derived.Test.YtilcmgdjfhhcdaaDoorUFnTextsx1
import Derived.Test.YtilcmgdjfhhcdaaDoorUFnTextsx4
import Derived.Test.YtilcmgdjfhhcdaaDoorUFnTextsx5
namespace Go.Proofs.YtilcmgdjfhhcdaaDoor.XFnTexts
open Go.RowKit Go.Proofs.YtilcmgdjfhhcdaaDoorW.PrintWords Go.Proofs.YtilcmgdjfhhcdaaDoorW.PrintLast Go.Proofs.YtilcmgdjfhhcdaaDoorW.PrintMore Go.Proofs.YtilcmgdjfhhcdaaDoorSq
attribute [local go_sem] max2_int min2_int max_two min_two max_three min_three max_four min_four   -- for this text's walks alone
set_option linter.unusedVariables false
set_option linter.unusedSimpArgs false

/-! ### spec_l15Any: function 16 -/
def spec_l15Any.f (k : Nat) (s0_0 : List Int) (s0_1 : Int) (s0_2 : Int) : Option (Int × Int × Int × (List (S27)) × Int × Int) := (spec_l15Cond.f k s0_0 s0_1 s0_2 2).bind fun bt334 => ((spec_l1Below.f s0_0 bt334.2.2.2.2.1 bt334.2.2.2.2.2 8).bind fun bt343 => (if bt343.1 = 0 then ((spec_l1Below.f s0_0 bt343.2.1 bt343.2.2 11).bind fun bt346 => (some (bt346.1, bt334.2.1, bt334.2.2.1, bt334.2.2.2.1, bt346.2.1, bt346.2.2))) else (if bt343.1 = 1 then ((spec_l1Int.f s0_0 bt343.2.1 bt343.2.2 (([(-1), 0, 3, 4, 5, 6, 10000, 10001] : List Int))).bind fun bt352 => (some (bt334.1, bt352.1, bt334.2.2.1, bt334.2.2.2.1, bt352.2.1, bt352.2.2))) else (if bt343.1 = 2 then ((spec_l1Int.f s0_0 bt343.2.1 bt343.2.2 (([(-1), 0, 10000, 10001] : List Int))).bind fun bt358 => (some (bt334.1, bt334.2.1, bt358.1, bt334.2.2.2.1, bt358.2.1, bt358.2.2))) else (if bt343.1 = 3 then ((spec_l15Leaf.f k s0_0 bt343.2.1 bt343.2.2).bind fun bt361 => (if bt334.2.2.2.1.length < 2932031007402 then (some (bt334.1, bt334.2.1, bt334.2.2.1, (bt334.2.2.2.1 ++ [(⟨bt361.1, bt361.2.1, bt361.2.2.1, bt361.2.2.2.1⟩ : S27)]), bt361.2.2.2.2.1, bt361.2.2.2.2.2)) else (none))) else (some (bt334.1, bt334.2.1, bt334.2.2.1, bt334.2.2.2.1, bt343.2.1, bt343.2.2)))))))
def spec_l15Any.T10 : Bool × List (List Nat × List Nat) := (true, [([], []), ([0], [0]), ([], []), ([2], [2]), ([3], [3]), ([1, 4, 3], [1, 4]), ([0, 1, 2, 3, 4, 5], []), ([6, 5, 5, 0, 1, 2, 3, 4, 5], [5, 6])])
def spec_l15Any.B10 : List Nat := [0, 1, 0, 4, 12, 31, 63, 127]
theorem spec_l15Any.tab10 : rtab .any (opsOf Tryd.f16 10) = spec_l15Any.T10 := by kernel_rfl
theorem spec_l15Any.bits10 : waitsOk spec_l15Any.T10.2 spec_l15Any.B10 = true := by kernel_rfl
theorem z16_0 {Q : Prop} (g : Q := by repeat (first | (with_reducible first | exact HK.out | apply KeepBut.set_ | apply keep_drewN | apply keep_drew | apply keep_alloc | refine keep_far ?_ GW333.out _) | exact HK.out)) : Q := g
theorem z16_1 {Q : Prop} (g : Q := by repeat (first | (with_reducible first | exact HK.out | apply KeepBut.set_ | apply keep_drewN | apply keep_drew | apply keep_alloc | refine keep_far ?_ GW333.out _ | refine keep_far ?_ GW342.out _) | exact HK.out)) : Q := g
theorem z16_2 {Q : Prop} (g : Q := by (with_reducible repeat (first | apply Kd.N_alloc | apply Kd.N_drewN | apply Kd.N_drew)); exact HO339.out) : Q := g
theorem z16_3 {Q : Prop} (g : Q := by rw [hg]; exact (keep_size (w := w) (g := g) (row := none) z16_0)) : Q := g
theorem z16_4 {Q : Prop} (g : Q := by rw [hg]; exact (keep_size (w := w) (g := g) (row := none) sqp)) : Q := g
theorem z16_5 {Q : Prop} (g : Q := by rw [hg]; exact Nat.ne_of_lt (IsS48.lt (show IsS48 w0 _ g s0_0 t340 t341 from sqi))) : Q := g
theorem z16_6 {Q : Prop} (g : Q := by rw [hg]; exact Nat.ne_of_lt (IsS48.lt (show IsS48 w0 _ g s0_0 s0_1 s0_2 from sqi))) : Q := g
theorem z16_7 {Q : Prop} (g : Q := by rw [hg]; exact Nat.ne_of_gt (IsS48.lt (show IsS48 w0 _ g s0_0 t340 t341 from sqi))) : Q := g
theorem z16_8 {Q : Prop} (g : Q := by rw [hg]; exact Nat.ne_of_gt (IsS48.lt (show IsS48 w0 _ g s0_0 s0_1 s0_2 from sqi))) : Q := g
set_option maxHeartbeats 8000000 in
set_option maxRecDepth 100000 in
theorem spec_l15Any.calls (k : Nat) (g : Nat) (s0_0 : List Int) (s0_1 : Int) (s0_2 : Int) (r1 : Int) (r2 : Int) (r3 : Int) (r4 : List (S27)) (r5 : Int) (r6 : Int) (w0 w : World) (hI : IsS48 w0 w g s0_0 s0_1 s0_2) (hB : Below w0.heap.size w0 w) (h : spec_l15Any.f k s0_0 s0_1 s0_2 = some (r1, r2, r3, r4, r5, r6)) :
  Calls Tryd.prog 16 #[.pointer (some ⟨g, 0, none⟩)] w fun e w' => ∃ v3_ : Value, e = .returned (.agg #[.int .i64 r1, .int .i64 r2, .int .i64 r3, v3_]) ∧ Kd.N k27 27 w' w.heap.size (fun k_ => (w.heap.size ≤ k_)) v3_ r4 ∧ IsS48 w0 w' g s0_0 r5 r6 ∧ Below w0.heap.size w0 w' ∧ KeepBut w w' g none := by
 have hu27 := Tryd.underlying27
 have HI0 := Aside0.mk hI
 have HK := Aside0.mk (KeepBut.refl w g none)
 have HL := Aside0.mk hB.size
 clear hI
 have HW0 := Aside0.mk hB.size
 have HB := Aside0.mk hB
 clear hB
 have H : ((spec_l15Cond.f k s0_0 s0_1 s0_2 2).bind fun bt334 => ((spec_l1Below.f s0_0 bt334.2.2.2.2.1 bt334.2.2.2.2.2 8).bind fun bt343 => (if bt343.1 = 0 then ((spec_l1Below.f s0_0 bt343.2.1 bt343.2.2 11).bind fun bt346 => (some (bt346.1, bt334.2.1, bt334.2.2.1, bt334.2.2.2.1, bt346.2.1, bt346.2.2))) else (if bt343.1 = 1 then ((spec_l1Int.f s0_0 bt343.2.1 bt343.2.2 (([(-1), 0, 3, 4, 5, 6, 10000, 10001] : List Int))).bind fun bt352 => (some (bt334.1, bt352.1, bt334.2.2.1, bt334.2.2.2.1, bt352.2.1, bt352.2.2))) else (if bt343.1 = 2 then ((spec_l1Int.f s0_0 bt343.2.1 bt343.2.2 (([(-1), 0, 10000, 10001] : List Int))).bind fun bt358 => (some (bt334.1, bt334.2.1, bt358.1, bt334.2.2.2.1, bt358.2.1, bt358.2.2))) else (if bt343.1 = 3 then ((spec_l15Leaf.f k s0_0 bt343.2.1 bt343.2.2).bind fun bt361 => (if bt334.2.2.2.1.length < 2932031007402 then (some (bt334.1, bt334.2.1, bt334.2.2.1, (bt334.2.2.2.1 ++ [(⟨bt361.1, bt361.2.1, bt361.2.2.1, bt361.2.2.2.1⟩ : S27)]), bt361.2.2.2.2.1, bt361.2.2.2.2.2)) else (none))) else (some (bt334.1, bt334.2.1, bt334.2.2.1, bt334.2.2.2.1, bt343.2.1, bt343.2.2)))))))) = some (r1, r2, r3, r4, r5, r6) := h
 clear h
 obtain ⟨⟨t334, t335, t336, t337, t340, t341⟩, A2, H⟩ := bA H
 dsimp only at H
 obtain ⟨⟨t343, t344, t345⟩, A3, H⟩ := bA H
 dsimp only at H
 by_cases c4 : t343 = 0
 ·rw [if_pos c4] at H
  have c4b0 : (t343 == 0) = true := beq_iff_eq.mpr c4
  have c4b1 : (t343 != 0) = false := bne_eq_false_iff_eq.mpr c4
  clear c4
  obtain ⟨⟨t346, t347, t348⟩, A5, H⟩ := bA H
  dsimp only at H
  simp only [Option.some.injEq, Prod.mk.injEq] at H
  obtain ⟨rfl, rfl, rfl, rfl, rfl, rfl⟩ := H
  go_enter Tryd.func16, Tryd.ntmps16
  go_wp2_with (first | ((with_reducible refine gate_dst (N := 2) rfl ?_); refine bx (N := 2) (cs := #[.int .i64 0, .int .i64 0, .int .i64 0, .slice none 0 0]) (t := 27) ?_; intro gb333 hg w6 hbox hb; replace HB := Aside0.mk (below_step sqj hb); have BK333 := Aside0.mk (hbox); have GW333 := Aside0.mk ((z16_4 : w.heap.size ≤ gb333)); have GE333 := Aside0.mk ((Nat.le_trans HW0.out (z16_4 : w.heap.size ≤ gb333) : w0.heap.size ≤ gb333)); replace HK := Aside0.mk (KeepBut.trans sqp (KeepBut.of_below hb g none) (.inl rfl)); have NB0_333 := Aside0.mk ((z16_6 : g ≠ gb333)); have NB333_0 := Aside0.mk ((z16_8 : gb333 ≠ g)); replace HI0 := Aside0.mk (IsS48.below sqi hb); clear hb hbox hg) | ((with_reducible refine gate_callee (f := 27) rfl ?_); refine goesL_ (some 5) rfl rfl Tryd.func27 sqk rfl #[.pointer (some ⟨g, 0, none⟩), .int .i64 2] rfl sqm ?_; (with_reducible refine (spec_l15Cond.calls k g s0_0 s0_1 s0_2 2 t334 t335 t336 t337 t340 t341 w0 _ ?side1 ?side2 A2.out).mono ?_); (case side1 => exact sqi); (case side2 => exact sqj); rintro e w7 ⟨v338, rfl, ho0, hi, hb, hk⟩; refine ⟨_, rfl, ?_⟩; have HO339 := Aside0.mk (Kd.N_lower (Kd.N_mono (ok' := fun k_ => (w.heap.size ≤ k_) ∧ k_ ≠ gb333 ∧ k_ ≠ g) ho0 (fun k_ hk_ => ⟨(Nat.le_trans (keep_size (w := w) (g := g) (row := none) z16_0) hk_), (Kd.freshB (bo BK333) k_ hk_), (IsS48.fresh sqi k_ hk_)⟩)) (keep_size (w := w) (g := g) (row := none) z16_0)); replace BK333 := Aside0.mk (KeepBut.blk hk (g' := gb333) (o := .cells #[.int .i64 0, .int .i64 0, .int .i64 0, .slice none 0 0] 27 (0, 0)) (sqb BK333.out) NB333_0.out (by simp)); replace HK := Aside0.mk (KeepBut.trans z16_0 hk (.inl rfl)); replace HB := Aside0.mk (hb); replace HI0 := Aside0.mk (hi); (try clear hb); (try clear hk); (try clear hi); (try clear ho0)) | ((with_reducible refine gate_dst (N := 3) rfl ?_); refine bx (N := 3) (cs := #[.int .i64 0, .int .i64 0, .int .i64 0, .slice none 0 0]) (t := 27) ?_; intro gb342 hg w8 hbox hb; replace HO339 := Aside0.mk (Kd.N_below (Kd.N_elderB z16_2 gb342 (Nat.le_of_eq hg.symm)) hb); replace HB := Aside0.mk (below_step sqj hb); have BK342 := Aside0.mk (hbox); have GW342 := Aside0.mk ((z16_3 : w.heap.size ≤ gb342)); have GE342 := Aside0.mk ((Nat.le_trans HW0.out (z16_3 : w.heap.size ≤ gb342) : w0.heap.size ≤ gb342)); replace HK := Aside0.mk (KeepBut.trans z16_0 (KeepBut.of_below hb g none) (.inl rfl)); have NB333_342 := Aside0.mk ((by rw [hg]; exact Nat.ne_of_lt (blk_lt (bo BK333)) : gb333 ≠ gb342)); have NB342_333 := Aside0.mk ((by rw [hg]; exact Nat.ne_of_gt (blk_lt (bo BK333)) : gb342 ≠ gb333)); replace BK333 := Aside0.mk (blk_below (bo BK333) hb); have NB0_342 := Aside0.mk ((z16_5 : g ≠ gb342)); have NB342_0 := Aside0.mk ((z16_7 : gb342 ≠ g)); replace HI0 := Aside0.mk (IsS48.below sqi hb); clear hb hbox hg; have hnb9 := NB342_333.out; have hnc9 := NB333_342.out; have hnb10 := NB342_0.out; have hnc10 := NB0_342.out; obtain ⟨hcz11_0, hcz11_1, hcz11_2, hcz11_3, hfz11_0, hfz11_1, hfz11_2, hfz11_3⟩ := sd4 BK342.out; obtain ⟨Ao12, co12, eo12⟩ := Kd.N_slice HO339.out; subst eo12) | ((with_reducible refine gate_callee (f := 25) rfl ?_); refine goesL_ (some 7) rfl rfl Tryd.func25 sqk rfl #[.pointer (some ⟨g, 0, none⟩), .int .i64 8] rfl sqm ?_; (with_reducible refine (spec_l1Below.calls g s0_0 t340 t341 8 t343 t344 t345 w0 _ ?side1 ?side2 A3.out).mono ?_); (case side1 => exact sqi); (case side2 => exact sqj); rintro e w13 ⟨rfl, hi, hb, hk⟩; refine ⟨_, rfl, ?_⟩; replace BK333 := Aside0.mk (KeepBut.blk hk (g' := gb333) (o := .cells #[.int .i64 0, .int .i64 0, .int .i64 0, .slice none 0 0] 27 (0, 0)) (bp BK333) NB333_0.out (by simp)); replace HO339 := Aside0.mk (Kd.N_mono (Kd.N_keep (Kd.N_mono (ok := fun k_ => ((((w.heap.size ≤ k_)) ∧ (k_ ≠ gb333 ∧ k_ ≠ g)) ∧ k_ ≠ gb342)) (by (with_reducible repeat (first | apply Kd.N_alloc | apply Kd.N_drewN | apply Kd.N_drew)); exact (Kd.N_mono (Kd.N_far (p := ⟨gb342, 3, none⟩) (Kd.N_far (p := ⟨gb342, 2, none⟩) (Kd.N_far (p := ⟨gb342, 1, none⟩) (Kd.N_far (p := ⟨gb342, 0, none⟩) (Kd.N_mono HO339.out (fun k_ hk => (⟨hk, hk.2⟩ : _ ∧ k_ ≠ gb342))) (fun _ hk => hk.2) (.int .i64 t334)) (fun _ hk => hk.2) (.int .i64 t335)) (fun _ hk => hk.2) (.int .i64 t336)) (fun _ hk => hk.2) (.slice Ao12 t337.length co12)) (fun _ h_ => h_.1))) (fun k_ hk_ => (⟨hk_, hk_.1.2.2⟩ : _ ∧ k_ ≠ g))) hk (fun _ h => h.2)) (fun _ h => h.1)); replace BK342 := Aside0.mk (KeepBut.blk hk (g' := gb342) (o := .cells #[.int .i64 t334, .int .i64 t335, .int .i64 t336, .slice Ao12 t337.length co12] 27 (0, 0)) (bp BK342) NB342_0.out (by simp)); replace HK := Aside0.mk (KeepBut.trans z16_1 hk (.inl rfl)); replace HB := Aside0.mk (hb); replace HI0 := Aside0.mk (hi); (try clear hb); (try clear hk); (try clear hi)) | ((with_reducible refine gate_callee (f := 25) rfl ?_); refine goesL_ (some 11) rfl rfl Tryd.func25 sqk rfl #[.pointer (some ⟨g, 0, none⟩), .int .i64 11] rfl sqm ?_; (with_reducible refine (spec_l1Below.calls g s0_0 t344 t345 11 t346 t347 t348 w0 _ ?side1 ?side2 A5.out).mono ?_); (case side1 => exact sqi); (case side2 => exact sqj); rintro e w14 ⟨rfl, hi, hb, hk⟩; refine ⟨_, rfl, ?_⟩; replace BK333 := Aside0.mk (KeepBut.blk hk (g' := gb333) (o := .cells #[.int .i64 0, .int .i64 0, .int .i64 0, .slice none 0 0] 27 (0, 0)) (sqb BK333.out) NB333_0.out (by simp)); replace HO339 := Aside0.mk (Kd.N_mono (Kd.N_keep (Kd.N_mono (ok := fun k_ => ((((w.heap.size ≤ k_)) ∧ (k_ ≠ gb333 ∧ k_ ≠ g)) ∧ k_ ≠ gb342)) z16_2 (fun k_ hk_ => (⟨hk_, hk_.1.2.2⟩ : _ ∧ k_ ≠ g))) hk (fun _ h => h.2)) (fun _ h => h.1)); replace BK342 := Aside0.mk (KeepBut.blk hk (g' := gb342) (o := .cells #[.int .i64 t334, .int .i64 t335, .int .i64 t336, .slice Ao12 t337.length co12] 27 (0, 0)) (sqb BK342.out) NB342_0.out (by simp)); replace HK := Aside0.mk (KeepBut.trans z16_1 hk (.inl rfl)); replace HB := Aside0.mk (hb); replace HI0 := Aside0.mk (hi); (try clear hb); (try clear hk); (try clear hi); obtain ⟨hcz15_0, hcz15_1, hcz15_2, hcz15_3, hfz15_0, hfz15_1, hfz15_2, hfz15_3⟩ := sd4 BK342.out; have hnb16 := NB333_0.out; have hnc16 := NB0_333.out; obtain ⟨hcz17_0, hcz17_1, hcz17_2, hcz17_3, hfz17_0, hfz17_1, hfz17_2, hfz17_3⟩ := sd4 BK333.out))
  refine bodyPost_ret (results_cell_row rfl _ _ gb333 27 #[.int .i64 t346, .int .i64 t335, .int .i64 t336, .slice Ao12 t337.length co12] (0, 0) _ rfl ?_ Tryd.underlying27 rfl sqk) rfl ?_; exact bp BK333
  exact ⟨_, sqe, by (with_reducible repeat (first | apply Kd.N_alloc | apply Kd.N_drewN | apply Kd.N_drew)); exact Kd.N_mono (Kd.N_far (p := ⟨gb333, 3, none⟩) (Kd.N_far (p := ⟨gb333, 2, none⟩) (Kd.N_far (p := ⟨gb333, 1, none⟩) (Kd.N_far (p := ⟨gb333, 0, none⟩) (Kd.N_far (p := ⟨gb342, 0, none⟩) (Kd.N_mono (Kd.N_mono HO339.out (fun k_ hk => (⟨hk, hk.2⟩ : _ ∧ k_ ≠ gb342))) (fun k_ hk => (⟨hk, hk.1.1.2.1⟩ : _ ∧ k_ ≠ gb333))) (fun _ hk => hk.1.2) (.int .i64 t346)) (fun _ hk => hk.2) (.int .i64 t346)) (fun _ hk => hk.2) (.int .i64 t335)) (fun _ hk => hk.2) (.int .i64 t336)) (fun _ hk => hk.2) (.slice Ao12 t337.length co12)) (fun _ hk => hk.1.1.1.1), sqi, sqj, by repeat (first | (with_reducible first | exact HK.out | apply KeepBut.set_ | apply keep_drewN | apply keep_drew | apply keep_alloc | refine keep_far ?_ GW333.out _ | refine keep_far ?_ GW342.out _) | exact HK.out)⟩
 ·rw [if_neg c4] at H
  have c4b0 : (t343 == 0) = false := beq_eq_false_iff_ne.mpr c4
  have c4b1 : (t343 != 0) = true := bne_iff_ne.mpr c4
  by_cases c18 : t343 = 1
  ·rw [if_pos c18] at H
   have c18b0 : (t343 == 1) = true := beq_iff_eq.mpr c18
   have c18b1 : (t343 != 1) = false := bne_eq_false_iff_eq.mpr c18
   clear c18
   obtain ⟨y349, hy349⟩ : ∃ y_ : List Int, y_ = (([(-1), 0, 3, 4, 5, 6, 10000, 10001] : List Int)) := ⟨_, rfl⟩
   replace H : ((spec_l1Int.f s0_0 t344 t345 y349).bind fun bt352 => (some (t334, bt352.1, t336, t337, bt352.2.1, bt352.2.2))) = some (r1, r2, r3, r4, r5, r6) := by first | (rw [hy349]; with_reducible exact H) | (have H2_ := (Option.bind_some _ _).symm.trans H; rw [hy349]; with_reducible exact H2_) | (have H2_ := (Option.bind_some _ _).symm.trans H; with_reducible exact H2_) | with_reducible exact H | (rw [hy349]; exact H) | exact H
   have Ny349 := Aside0.mk hy349
   clear hy349
   obtain ⟨⟨t352, t353, t354⟩, A19, H⟩ := bA H
   dsimp only at H
   simp only [Option.some.injEq, Prod.mk.injEq] at H
   obtain ⟨rfl, rfl, rfl, rfl, rfl, rfl⟩ := H
   go_enter Tryd.func16, Tryd.ntmps16
   go_wp2_with (first | ((with_reducible refine gate_dst (N := 2) rfl ?_); refine bx (N := 2) (cs := #[.int .i64 0, .int .i64 0, .int .i64 0, .slice none 0 0]) (t := 27) ?_; intro gb333 hg w20 hbox hb; replace HB := Aside0.mk (below_step sqj hb); have BK333 := Aside0.mk (hbox); have GW333 := Aside0.mk ((z16_4 : w.heap.size ≤ gb333)); have GE333 := Aside0.mk ((Nat.le_trans HW0.out (z16_4 : w.heap.size ≤ gb333) : w0.heap.size ≤ gb333)); replace HK := Aside0.mk (KeepBut.trans sqp (KeepBut.of_below hb g none) (.inl rfl)); have NB0_333 := Aside0.mk ((z16_6 : g ≠ gb333)); have NB333_0 := Aside0.mk ((z16_8 : gb333 ≠ g)); replace HI0 := Aside0.mk (IsS48.below sqi hb); clear hb hbox hg) | ((with_reducible refine gate_callee (f := 27) rfl ?_); refine goesL_ (some 5) rfl rfl Tryd.func27 sqk rfl #[.pointer (some ⟨g, 0, none⟩), .int .i64 2] rfl sqm ?_; (with_reducible refine (spec_l15Cond.calls k g s0_0 s0_1 s0_2 2 t334 t335 t336 t337 t340 t341 w0 _ ?side1 ?side2 A2.out).mono ?_); (case side1 => exact sqi); (case side2 => exact sqj); rintro e w21 ⟨v338, rfl, ho0, hi, hb, hk⟩; refine ⟨_, rfl, ?_⟩; have HO339 := Aside0.mk (Kd.N_lower (Kd.N_mono (ok' := fun k_ => (w.heap.size ≤ k_) ∧ k_ ≠ gb333 ∧ k_ ≠ g) ho0 (fun k_ hk_ => ⟨(Nat.le_trans (keep_size (w := w) (g := g) (row := none) z16_0) hk_), (Kd.freshB (bo BK333) k_ hk_), (IsS48.fresh sqi k_ hk_)⟩)) (keep_size (w := w) (g := g) (row := none) z16_0)); replace BK333 := Aside0.mk (KeepBut.blk hk (g' := gb333) (o := .cells #[.int .i64 0, .int .i64 0, .int .i64 0, .slice none 0 0] 27 (0, 0)) (sqb BK333.out) NB333_0.out (by simp)); replace HK := Aside0.mk (KeepBut.trans z16_0 hk (.inl rfl)); replace HB := Aside0.mk (hb); replace HI0 := Aside0.mk (hi); (try clear hb); (try clear hk); (try clear hi); (try clear ho0)) | ((with_reducible refine gate_dst (N := 3) rfl ?_); refine bx (N := 3) (cs := #[.int .i64 0, .int .i64 0, .int .i64 0, .slice none 0 0]) (t := 27) ?_; intro gb342 hg w22 hbox hb; replace HO339 := Aside0.mk (Kd.N_below (Kd.N_elderB z16_2 gb342 (Nat.le_of_eq hg.symm)) hb); replace HB := Aside0.mk (below_step sqj hb); have BK342 := Aside0.mk (hbox); have GW342 := Aside0.mk ((z16_3 : w.heap.size ≤ gb342)); have GE342 := Aside0.mk ((Nat.le_trans HW0.out (z16_3 : w.heap.size ≤ gb342) : w0.heap.size ≤ gb342)); replace HK := Aside0.mk (KeepBut.trans z16_0 (KeepBut.of_below hb g none) (.inl rfl)); have NB333_342 := Aside0.mk ((by rw [hg]; exact Nat.ne_of_lt (blk_lt (bo BK333)) : gb333 ≠ gb342)); have NB342_333 := Aside0.mk ((by rw [hg]; exact Nat.ne_of_gt (blk_lt (bo BK333)) : gb342 ≠ gb333)); replace BK333 := Aside0.mk (blk_below (bo BK333) hb); have NB0_342 := Aside0.mk ((z16_5 : g ≠ gb342)); have NB342_0 := Aside0.mk ((z16_7 : gb342 ≠ g)); replace HI0 := Aside0.mk (IsS48.below sqi hb); clear hb hbox hg; have hnb23 := NB342_333.out; have hnc23 := NB333_342.out; have hnb24 := NB342_0.out; have hnc24 := NB0_342.out; obtain ⟨hcz25_0, hcz25_1, hcz25_2, hcz25_3, hfz25_0, hfz25_1, hfz25_2, hfz25_3⟩ := sd4 BK342.out; obtain ⟨Ao26, co26, eo26⟩ := Kd.N_slice HO339.out; subst eo26) | ((with_reducible refine gate_callee (f := 25) rfl ?_); refine goesL_ (some 7) rfl rfl Tryd.func25 sqk rfl #[.pointer (some ⟨g, 0, none⟩), .int .i64 8] rfl sqm ?_; (with_reducible refine (spec_l1Below.calls g s0_0 t340 t341 8 t343 t344 t345 w0 _ ?side1 ?side2 A3.out).mono ?_); (case side1 => exact sqi); (case side2 => exact sqj); rintro e w27 ⟨rfl, hi, hb, hk⟩; refine ⟨_, rfl, ?_⟩; replace BK333 := Aside0.mk (KeepBut.blk hk (g' := gb333) (o := .cells #[.int .i64 0, .int .i64 0, .int .i64 0, .slice none 0 0] 27 (0, 0)) (bp BK333) NB333_0.out (by simp)); replace HO339 := Aside0.mk (Kd.N_mono (Kd.N_keep (Kd.N_mono (ok := fun k_ => ((((w.heap.size ≤ k_)) ∧ (k_ ≠ gb333 ∧ k_ ≠ g)) ∧ k_ ≠ gb342)) (by (with_reducible repeat (first | apply Kd.N_alloc | apply Kd.N_drewN | apply Kd.N_drew)); exact (Kd.N_mono (Kd.N_far (p := ⟨gb342, 3, none⟩) (Kd.N_far (p := ⟨gb342, 2, none⟩) (Kd.N_far (p := ⟨gb342, 1, none⟩) (Kd.N_far (p := ⟨gb342, 0, none⟩) (Kd.N_mono HO339.out (fun k_ hk => (⟨hk, hk.2⟩ : _ ∧ k_ ≠ gb342))) (fun _ hk => hk.2) (.int .i64 t334)) (fun _ hk => hk.2) (.int .i64 t335)) (fun _ hk => hk.2) (.int .i64 t336)) (fun _ hk => hk.2) (.slice Ao26 t337.length co26)) (fun _ h_ => h_.1))) (fun k_ hk_ => (⟨hk_, hk_.1.2.2⟩ : _ ∧ k_ ≠ g))) hk (fun _ h => h.2)) (fun _ h => h.1)); replace BK342 := Aside0.mk (KeepBut.blk hk (g' := gb342) (o := .cells #[.int .i64 t334, .int .i64 t335, .int .i64 t336, .slice Ao26 t337.length co26] 27 (0, 0)) (bp BK342) NB342_0.out (by simp)); replace HK := Aside0.mk (KeepBut.trans z16_1 hk (.inl rfl)); replace HB := Aside0.mk (hb); replace HI0 := Aside0.mk (hi); (try clear hb); (try clear hk); (try clear hi)) | ((with_reducible refine gate_dst (N := 16) rfl ?_); refine Kd.R_lit (Kd.int .i64) _ 3 ?hg (N := 16) ?hd (xs := ([(-1), 0, 3, 4, 5, 6, 10000, 10001] : List Int)) (inner := [.int .i64 (-1), .int .i64 0, .int .i64 3, .int .i64 4, .int .i64 5, .int .i64 6, .int .i64 10000, .int .i64 10001]) (ok := fun _ => True) (okp := fun _ => True) ?hr ?hp (fun _ hk => hk) trivial (Below.refl _ _) (Nat.le_refl _) (by simp) ?_; (case hd => rfl); (case hg => rfl); (case hr => first | (go_simp; done) | (go_simp; rfl)); (case hp => exact (Reps.one (show Kd.M (Kd.int .i64) _ _ _ (-1) [.int .i64 (-1)] from rfl) (Reps.one (show Kd.M (Kd.int .i64) _ _ _ 0 [.int .i64 0] from rfl) (Reps.one (show Kd.M (Kd.int .i64) _ _ _ 3 [.int .i64 3] from rfl) (Reps.one (show Kd.M (Kd.int .i64) _ _ _ 4 [.int .i64 4] from rfl) (Reps.one (show Kd.M (Kd.int .i64) _ _ _ 5 [.int .i64 5] from rfl) (Reps.one (show Kd.M (Kd.int .i64) _ _ _ 6 [.int .i64 6] from rfl) (Reps.one (show Kd.M (Kd.int .i64) _ _ _ 10000 [.int .i64 10000] from rfl) (Reps.one (show Kd.M (Kd.int .i64) _ _ _ 10001 [.int .i64 10001] from rfl) (Reps.none _ _)))))))))); intro v350 w28 ho29 hb hg_ hnew_; clear hg_ hnew_; (first | rw [← Ny349.out] at ho29 | (simp only [Int.reduceToNat] at ho29; rw [← Ny349.out] at ho29)); replace HO339 := Aside0.mk (Kd.N_elder' z16_2 (Kd.R_base ho29) hb); have HO351 := Aside0.mk (Kd.R_lower (Kd.R_newM (M := fun k_ => (w.heap.size ≤ k_)) ho29 (keep_size (w := w) (g := g) (row := none) z16_1) (fun k_ h_ => h_)) (keep_size (w := w) (g := g) (row := none) z16_1)); replace BK333 := Aside0.mk (blk_below (bo BK333) hb); replace BK342 := Aside0.mk (blk_below (bo BK342) hb); replace HK := Aside0.mk (KeepBut.trans z16_1 (KeepBut.of_below hb g none) (.inl rfl)); replace HB := Aside0.mk (below_step sqj hb); replace HI0 := Aside0.mk (IsS48.below sqi hb); clear hb ho29; obtain ⟨Ao30, co30, eo30⟩ := Kd.R_slice HO351.out; subst eo30) | ((with_reducible refine gate_callee (f := 28) rfl ?_); refine goesL_ (some 17) rfl rfl Tryd.func28 sqk rfl #[.pointer (some ⟨g, 0, none⟩), .slice Ao30 y349.length co30] rfl sqm ?_; (with_reducible refine (spec_l1Int.calls g s0_0 t344 t345 _ _ y349 t352 t353 t354 w0 _ ?side1 ?side2 ?side3 ?side4 ?side5 A19.out).mono ?_); (case side1 => exact sqi); (case side2 => exact sqj); (case side3 => repeat (first | exact (Kd.R_reads' HO351.out).2.2 | (with_reducible refine Kd.C_alloc ?_ _) | (with_reducible refine Kd.C_drewN ?_ _) | (with_reducible refine Kd.C_drew ?_))); (case side4 => exact (Kd.R_reads' HO351.out).2.1); (case side5 => exact far_slice (IsS48.own_ne HI0.out HO351.out (by decide))); rintro e w31 ⟨rfl, hi, hb, hk⟩; refine ⟨_, rfl, ?_⟩; replace BK333 := Aside0.mk (KeepBut.blk hk (g' := gb333) (o := .cells #[.int .i64 0, .int .i64 0, .int .i64 0, .slice none 0 0] 27 (0, 0)) (sqb BK333.out) NB333_0.out (by simp)); replace HO339 := Aside0.mk (Kd.N_mono (Kd.N_keep (Kd.N_mono (ok := fun k_ => (((((w.heap.size ≤ k_)) ∧ (k_ ≠ gb333 ∧ k_ ≠ g)) ∧ k_ ≠ gb342) ∧ some k_ ≠ (.slice Ao30 y349.length co30 : Value).ownBlock)) z16_2 (fun k_ hk_ => (⟨hk_, hk_.1.1.2.2⟩ : _ ∧ k_ ≠ g))) hk (fun _ h => h.2)) (fun _ h => h.1)); replace BK342 := Aside0.mk (KeepBut.blk hk (g' := gb342) (o := .cells #[.int .i64 t334, .int .i64 t335, .int .i64 t336, .slice Ao26 t337.length co26] 27 (0, 0)) (sqb BK342.out) NB342_0.out (by simp)); replace HO351 := Aside0.mk (Kd.R_mono (Kd.R_keep (IsS48.apart (show IsS48 w0 _ g s0_0 t344 t345 from sqi) (sqq HO351.out) (by decide)) hk (fun _ h => h.2)) (fun _ h => h.1)); replace HK := Aside0.mk (KeepBut.trans z16_1 hk (.inl rfl)); replace HB := Aside0.mk (hb); replace HI0 := Aside0.mk (hi); (try clear hb); (try clear hk); (try clear hi); obtain ⟨hcz32_0, hcz32_1, hcz32_2, hcz32_3, hfz32_0, hfz32_1, hfz32_2, hfz32_3⟩ := sd4 BK342.out; have hnb33 := NB333_0.out; have hnc33 := NB0_333.out; obtain ⟨hcz34_0, hcz34_1, hcz34_2, hcz34_3, hfz34_0, hfz34_1, hfz34_2, hfz34_3⟩ := sd4 BK333.out))
   refine bodyPost_ret (results_cell_row rfl _ _ gb333 27 #[.int .i64 t334, .int .i64 t352, .int .i64 t336, .slice Ao26 t337.length co26] (0, 0) _ rfl ?_ Tryd.underlying27 rfl sqk) rfl ?_; exact bp BK333
   exact ⟨_, sqe, by (with_reducible repeat (first | apply Kd.N_alloc | apply Kd.N_drewN | apply Kd.N_drew)); exact Kd.N_mono (Kd.N_far (p := ⟨gb333, 3, none⟩) (Kd.N_far (p := ⟨gb333, 2, none⟩) (Kd.N_far (p := ⟨gb333, 1, none⟩) (Kd.N_far (p := ⟨gb333, 0, none⟩) (Kd.N_far (p := ⟨gb342, 1, none⟩) (Kd.N_mono (Kd.N_mono HO339.out (fun k_ hk => (⟨hk, hk.1.2⟩ : _ ∧ k_ ≠ gb342))) (fun k_ hk => (⟨hk, hk.1.1.1.2.1⟩ : _ ∧ k_ ≠ gb333))) (fun _ hk => hk.1.2) (.int .i64 t352)) (fun _ hk => hk.2) (.int .i64 t334)) (fun _ hk => hk.2) (.int .i64 t352)) (fun _ hk => hk.2) (.int .i64 t336)) (fun _ hk => hk.2) (.slice Ao26 t337.length co26)) (fun _ hk => hk.1.1.1.1.1), sqi, sqj, by repeat (first | (with_reducible first | exact HK.out | apply KeepBut.set_ | apply keep_drewN | apply keep_drew | apply keep_alloc | refine keep_far ?_ GW333.out _ | refine keep_far ?_ GW342.out _) | exact HK.out)⟩
  ·rw [if_neg c18] at H
   have c18b0 : (t343 == 1) = false := beq_eq_false_iff_ne.mpr c18
   have c18b1 : (t343 != 1) = true := bne_iff_ne.mpr c18
   by_cases c35 : t343 = 2
   ·rw [if_pos c35] at H
    have c35b0 : (t343 == 2) = true := beq_iff_eq.mpr c35
    have c35b1 : (t343 != 2) = false := bne_eq_false_iff_eq.mpr c35
    clear c35
    obtain ⟨y355, hy355⟩ : ∃ y_ : List Int, y_ = (([(-1), 0, 10000, 10001] : List Int)) := ⟨_, rfl⟩
    replace H : ((spec_l1Int.f s0_0 t344 t345 y355).bind fun bt358 => (some (t334, t335, bt358.1, t337, bt358.2.1, bt358.2.2))) = some (r1, r2, r3, r4, r5, r6) := by first | (rw [hy355]; with_reducible exact H) | (have H2_ := (Option.bind_some _ _).symm.trans H; rw [hy355]; with_reducible exact H2_) | (have H2_ := (Option.bind_some _ _).symm.trans H; with_reducible exact H2_) | with_reducible exact H | (rw [hy355]; exact H) | exact H
    have Ny355 := Aside0.mk hy355
    clear hy355
    obtain ⟨⟨t358, t359, t360⟩, A36, H⟩ := bA H
    dsimp only at H
    simp only [Option.some.injEq, Prod.mk.injEq] at H
    obtain ⟨rfl, rfl, rfl, rfl, rfl, rfl⟩ := H
    go_enter Tryd.func16, Tryd.ntmps16
    go_wp2_with (first | ((with_reducible refine gate_dst (N := 2) rfl ?_); refine bx (N := 2) (cs := #[.int .i64 0, .int .i64 0, .int .i64 0, .slice none 0 0]) (t := 27) ?_; intro gb333 hg w37 hbox hb; replace HB := Aside0.mk (below_step sqj hb); have BK333 := Aside0.mk (hbox); have GW333 := Aside0.mk ((z16_4 : w.heap.size ≤ gb333)); have GE333 := Aside0.mk ((Nat.le_trans HW0.out (z16_4 : w.heap.size ≤ gb333) : w0.heap.size ≤ gb333)); replace HK := Aside0.mk (KeepBut.trans sqp (KeepBut.of_below hb g none) (.inl rfl)); have NB0_333 := Aside0.mk ((z16_6 : g ≠ gb333)); have NB333_0 := Aside0.mk ((z16_8 : gb333 ≠ g)); replace HI0 := Aside0.mk (IsS48.below sqi hb); clear hb hbox hg) | ((with_reducible refine gate_callee (f := 27) rfl ?_); refine goesL_ (some 5) rfl rfl Tryd.func27 sqk rfl #[.pointer (some ⟨g, 0, none⟩), .int .i64 2] rfl sqm ?_; (with_reducible refine (spec_l15Cond.calls k g s0_0 s0_1 s0_2 2 t334 t335 t336 t337 t340 t341 w0 _ ?side1 ?side2 A2.out).mono ?_); (case side1 => exact sqi); (case side2 => exact sqj); rintro e w38 ⟨v338, rfl, ho0, hi, hb, hk⟩; refine ⟨_, rfl, ?_⟩; have HO339 := Aside0.mk (Kd.N_lower (Kd.N_mono (ok' := fun k_ => (w.heap.size ≤ k_) ∧ k_ ≠ gb333 ∧ k_ ≠ g) ho0 (fun k_ hk_ => ⟨(Nat.le_trans (keep_size (w := w) (g := g) (row := none) z16_0) hk_), (Kd.freshB (bo BK333) k_ hk_), (IsS48.fresh sqi k_ hk_)⟩)) (keep_size (w := w) (g := g) (row := none) z16_0)); replace BK333 := Aside0.mk (KeepBut.blk hk (g' := gb333) (o := .cells #[.int .i64 0, .int .i64 0, .int .i64 0, .slice none 0 0] 27 (0, 0)) (sqb BK333.out) NB333_0.out (by simp)); replace HK := Aside0.mk (KeepBut.trans z16_0 hk (.inl rfl)); replace HB := Aside0.mk (hb); replace HI0 := Aside0.mk (hi); (try clear hb); (try clear hk); (try clear hi); (try clear ho0)) | ((with_reducible refine gate_dst (N := 3) rfl ?_); refine bx (N := 3) (cs := #[.int .i64 0, .int .i64 0, .int .i64 0, .slice none 0 0]) (t := 27) ?_; intro gb342 hg w39 hbox hb; replace HO339 := Aside0.mk (Kd.N_below (Kd.N_elderB z16_2 gb342 (Nat.le_of_eq hg.symm)) hb); replace HB := Aside0.mk (below_step sqj hb); have BK342 := Aside0.mk (hbox); have GW342 := Aside0.mk ((z16_3 : w.heap.size ≤ gb342)); have GE342 := Aside0.mk ((Nat.le_trans HW0.out (z16_3 : w.heap.size ≤ gb342) : w0.heap.size ≤ gb342)); replace HK := Aside0.mk (KeepBut.trans z16_0 (KeepBut.of_below hb g none) (.inl rfl)); have NB333_342 := Aside0.mk ((by rw [hg]; exact Nat.ne_of_lt (blk_lt (bo BK333)) : gb333 ≠ gb342)); have NB342_333 := Aside0.mk ((by rw [hg]; exact Nat.ne_of_gt (blk_lt (bo BK333)) : gb342 ≠ gb333)); replace BK333 := Aside0.mk (blk_below (bo BK333) hb); have NB0_342 := Aside0.mk ((z16_5 : g ≠ gb342)); have NB342_0 := Aside0.mk ((z16_7 : gb342 ≠ g)); replace HI0 := Aside0.mk (IsS48.below sqi hb); clear hb hbox hg; have hnb40 := NB342_333.out; have hnc40 := NB333_342.out; have hnb41 := NB342_0.out; have hnc41 := NB0_342.out; obtain ⟨hcz42_0, hcz42_1, hcz42_2, hcz42_3, hfz42_0, hfz42_1, hfz42_2, hfz42_3⟩ := sd4 BK342.out; obtain ⟨Ao43, co43, eo43⟩ := Kd.N_slice HO339.out; subst eo43) | ((with_reducible refine gate_callee (f := 25) rfl ?_); refine goesL_ (some 7) rfl rfl Tryd.func25 sqk rfl #[.pointer (some ⟨g, 0, none⟩), .int .i64 8] rfl sqm ?_; (with_reducible refine (spec_l1Below.calls g s0_0 t340 t341 8 t343 t344 t345 w0 _ ?side1 ?side2 A3.out).mono ?_); (case side1 => exact sqi); (case side2 => exact sqj); rintro e w44 ⟨rfl, hi, hb, hk⟩; refine ⟨_, rfl, ?_⟩; replace BK333 := Aside0.mk (KeepBut.blk hk (g' := gb333) (o := .cells #[.int .i64 0, .int .i64 0, .int .i64 0, .slice none 0 0] 27 (0, 0)) (bp BK333) NB333_0.out (by simp)); replace HO339 := Aside0.mk (Kd.N_mono (Kd.N_keep (Kd.N_mono (ok := fun k_ => ((((w.heap.size ≤ k_)) ∧ (k_ ≠ gb333 ∧ k_ ≠ g)) ∧ k_ ≠ gb342)) (by (with_reducible repeat (first | apply Kd.N_alloc | apply Kd.N_drewN | apply Kd.N_drew)); exact (Kd.N_mono (Kd.N_far (p := ⟨gb342, 3, none⟩) (Kd.N_far (p := ⟨gb342, 2, none⟩) (Kd.N_far (p := ⟨gb342, 1, none⟩) (Kd.N_far (p := ⟨gb342, 0, none⟩) (Kd.N_mono HO339.out (fun k_ hk => (⟨hk, hk.2⟩ : _ ∧ k_ ≠ gb342))) (fun _ hk => hk.2) (.int .i64 t334)) (fun _ hk => hk.2) (.int .i64 t335)) (fun _ hk => hk.2) (.int .i64 t336)) (fun _ hk => hk.2) (.slice Ao43 t337.length co43)) (fun _ h_ => h_.1))) (fun k_ hk_ => (⟨hk_, hk_.1.2.2⟩ : _ ∧ k_ ≠ g))) hk (fun _ h => h.2)) (fun _ h => h.1)); replace BK342 := Aside0.mk (KeepBut.blk hk (g' := gb342) (o := .cells #[.int .i64 t334, .int .i64 t335, .int .i64 t336, .slice Ao43 t337.length co43] 27 (0, 0)) (bp BK342) NB342_0.out (by simp)); replace HK := Aside0.mk (KeepBut.trans z16_1 hk (.inl rfl)); replace HB := Aside0.mk (hb); replace HI0 := Aside0.mk (hi); (try clear hb); (try clear hk); (try clear hi)) | ((with_reducible refine gate_dst (N := 22) rfl ?_); refine Kd.R_lit (Kd.int .i64) _ 3 ?hg (N := 22) ?hd (xs := ([(-1), 0, 10000, 10001] : List Int)) (inner := [.int .i64 (-1), .int .i64 0, .int .i64 10000, .int .i64 10001]) (ok := fun _ => True) (okp := fun _ => True) ?hr ?hp (fun _ hk => hk) trivial (Below.refl _ _) (Nat.le_refl _) (by simp) ?_; (case hd => rfl); (case hg => rfl); (case hr => first | (go_simp; done) | (go_simp; rfl)); (case hp => exact (Reps.one (show Kd.M (Kd.int .i64) _ _ _ (-1) [.int .i64 (-1)] from rfl) (Reps.one (show Kd.M (Kd.int .i64) _ _ _ 0 [.int .i64 0] from rfl) (Reps.one (show Kd.M (Kd.int .i64) _ _ _ 10000 [.int .i64 10000] from rfl) (Reps.one (show Kd.M (Kd.int .i64) _ _ _ 10001 [.int .i64 10001] from rfl) (Reps.none _ _)))))); intro v356 w45 ho46 hb hg_ hnew_; clear hg_ hnew_; (first | rw [← Ny355.out] at ho46 | (simp only [Int.reduceToNat] at ho46; rw [← Ny355.out] at ho46)); replace HO339 := Aside0.mk (Kd.N_elder' z16_2 (Kd.R_base ho46) hb); have HO357 := Aside0.mk (Kd.R_lower (Kd.R_newM (M := fun k_ => (w.heap.size ≤ k_)) ho46 (keep_size (w := w) (g := g) (row := none) z16_1) (fun k_ h_ => h_)) (keep_size (w := w) (g := g) (row := none) z16_1)); replace BK333 := Aside0.mk (blk_below (bo BK333) hb); replace BK342 := Aside0.mk (blk_below (bo BK342) hb); replace HK := Aside0.mk (KeepBut.trans z16_1 (KeepBut.of_below hb g none) (.inl rfl)); replace HB := Aside0.mk (below_step sqj hb); replace HI0 := Aside0.mk (IsS48.below sqi hb); clear hb ho46; obtain ⟨Ao47, co47, eo47⟩ := Kd.R_slice HO357.out; subst eo47) | ((with_reducible refine gate_callee (f := 28) rfl ?_); refine goesL_ (some 23) rfl rfl Tryd.func28 sqk rfl #[.pointer (some ⟨g, 0, none⟩), .slice Ao47 y355.length co47] rfl sqm ?_; (with_reducible refine (spec_l1Int.calls g s0_0 t344 t345 _ _ y355 t358 t359 t360 w0 _ ?side1 ?side2 ?side3 ?side4 ?side5 A36.out).mono ?_); (case side1 => exact sqi); (case side2 => exact sqj); (case side3 => repeat (first | exact (Kd.R_reads' HO357.out).2.2 | (with_reducible refine Kd.C_alloc ?_ _) | (with_reducible refine Kd.C_drewN ?_ _) | (with_reducible refine Kd.C_drew ?_))); (case side4 => exact (Kd.R_reads' HO357.out).2.1); (case side5 => exact far_slice (IsS48.own_ne HI0.out HO357.out (by decide))); rintro e w48 ⟨rfl, hi, hb, hk⟩; refine ⟨_, rfl, ?_⟩; replace BK333 := Aside0.mk (KeepBut.blk hk (g' := gb333) (o := .cells #[.int .i64 0, .int .i64 0, .int .i64 0, .slice none 0 0] 27 (0, 0)) (sqb BK333.out) NB333_0.out (by simp)); replace HO339 := Aside0.mk (Kd.N_mono (Kd.N_keep (Kd.N_mono (ok := fun k_ => (((((w.heap.size ≤ k_)) ∧ (k_ ≠ gb333 ∧ k_ ≠ g)) ∧ k_ ≠ gb342) ∧ some k_ ≠ (.slice Ao47 y355.length co47 : Value).ownBlock)) z16_2 (fun k_ hk_ => (⟨hk_, hk_.1.1.2.2⟩ : _ ∧ k_ ≠ g))) hk (fun _ h => h.2)) (fun _ h => h.1)); replace BK342 := Aside0.mk (KeepBut.blk hk (g' := gb342) (o := .cells #[.int .i64 t334, .int .i64 t335, .int .i64 t336, .slice Ao43 t337.length co43] 27 (0, 0)) (sqb BK342.out) NB342_0.out (by simp)); replace HO357 := Aside0.mk (Kd.R_mono (Kd.R_keep (IsS48.apart (show IsS48 w0 _ g s0_0 t344 t345 from sqi) (sqq HO357.out) (by decide)) hk (fun _ h => h.2)) (fun _ h => h.1)); replace HK := Aside0.mk (KeepBut.trans z16_1 hk (.inl rfl)); replace HB := Aside0.mk (hb); replace HI0 := Aside0.mk (hi); (try clear hb); (try clear hk); (try clear hi); obtain ⟨hcz49_0, hcz49_1, hcz49_2, hcz49_3, hfz49_0, hfz49_1, hfz49_2, hfz49_3⟩ := sd4 BK342.out; have hnb50 := NB333_0.out; have hnc50 := NB0_333.out; obtain ⟨hcz51_0, hcz51_1, hcz51_2, hcz51_3, hfz51_0, hfz51_1, hfz51_2, hfz51_3⟩ := sd4 BK333.out))
    refine bodyPost_ret (results_cell_row rfl _ _ gb333 27 #[.int .i64 t334, .int .i64 t335, .int .i64 t358, .slice Ao43 t337.length co43] (0, 0) _ rfl ?_ Tryd.underlying27 rfl sqk) rfl ?_; exact bp BK333
    exact ⟨_, sqe, by (with_reducible repeat (first | apply Kd.N_alloc | apply Kd.N_drewN | apply Kd.N_drew)); exact Kd.N_mono (Kd.N_far (p := ⟨gb333, 3, none⟩) (Kd.N_far (p := ⟨gb333, 2, none⟩) (Kd.N_far (p := ⟨gb333, 1, none⟩) (Kd.N_far (p := ⟨gb333, 0, none⟩) (Kd.N_far (p := ⟨gb342, 2, none⟩) (Kd.N_mono (Kd.N_mono HO339.out (fun k_ hk => (⟨hk, hk.1.2⟩ : _ ∧ k_ ≠ gb342))) (fun k_ hk => (⟨hk, hk.1.1.1.2.1⟩ : _ ∧ k_ ≠ gb333))) (fun _ hk => hk.1.2) (.int .i64 t358)) (fun _ hk => hk.2) (.int .i64 t334)) (fun _ hk => hk.2) (.int .i64 t335)) (fun _ hk => hk.2) (.int .i64 t358)) (fun _ hk => hk.2) (.slice Ao43 t337.length co43)) (fun _ hk => hk.1.1.1.1.1), sqi, sqj, by repeat (first | (with_reducible first | exact HK.out | apply KeepBut.set_ | apply keep_drewN | apply keep_drew | apply keep_alloc | refine keep_far ?_ GW333.out _ | refine keep_far ?_ GW342.out _) | exact HK.out)⟩
   ·rw [if_neg c35] at H
    have c35b0 : (t343 == 2) = false := beq_eq_false_iff_ne.mpr c35
    have c35b1 : (t343 != 2) = true := bne_iff_ne.mpr c35
    by_cases c52 : t343 = 3
    ·rw [if_pos c52] at H
     have c52b0 : (t343 == 3) = true := beq_iff_eq.mpr c52
     have c52b1 : (t343 != 3) = false := bne_eq_false_iff_eq.mpr c52
     clear c52
     obtain ⟨⟨t361, t362, t363, t364, t367, t368⟩, A53, H⟩ := bA H
     dsimp only at H
     by_cases c54 : t337.length < 2932031007402
     ·rw [if_pos c54] at H
      have LMc54 := Aside0.mk c54
      clear c54
      obtain ⟨y369, hy369⟩ : ∃ y_ : List (S27), y_ = (t337 ++ [(⟨t361, t362, t363, t364⟩ : S27)]) := ⟨_, rfl⟩
      replace H : (some (t334, t335, t336, y369, t367, t368)) = some (r1, r2, r3, r4, r5, r6) := by first | (rw [hy369]; with_reducible exact H) | (have H2_ := (Option.bind_some _ _).symm.trans H; rw [hy369]; with_reducible exact H2_) | (have H2_ := (Option.bind_some _ _).symm.trans H; with_reducible exact H2_) | with_reducible exact H | (rw [hy369]; exact H) | exact H
      have Ny369 := Aside0.mk hy369
      clear hy369
      simp only [Option.some.injEq, Prod.mk.injEq] at H
      obtain ⟨rfl, rfl, rfl, rfl, rfl, rfl⟩ := H
      go_enter Tryd.func16, Tryd.ntmps16
      try go_wp2_with (first | ((with_reducible refine gate_dst (N := 2) rfl ?_); refine bx (N := 2) (cs := #[.int .i64 0, .int .i64 0, .int .i64 0, .slice none 0 0]) (t := 27) ?_; intro gb333 hg w55 hbox hb; replace HB := Aside0.mk (below_step sqj hb); have BK333 := Aside0.mk (hbox); have GW333 := Aside0.mk ((z16_4 : w.heap.size ≤ gb333)); have GE333 := Aside0.mk ((Nat.le_trans HW0.out (z16_4 : w.heap.size ≤ gb333) : w0.heap.size ≤ gb333)); replace HK := Aside0.mk (KeepBut.trans sqp (KeepBut.of_below hb g none) (.inl rfl)); have NB0_333 := Aside0.mk ((z16_6 : g ≠ gb333)); have NB333_0 := Aside0.mk ((z16_8 : gb333 ≠ g)); replace HI0 := Aside0.mk (IsS48.below sqi hb); clear hb hbox hg) | ((with_reducible refine gate_callee (f := 27) rfl ?_); refine goesL_ (some 5) rfl rfl Tryd.func27 sqk rfl #[.pointer (some ⟨g, 0, none⟩), .int .i64 2] rfl sqm ?_; (with_reducible refine (spec_l15Cond.calls k g s0_0 s0_1 s0_2 2 t334 t335 t336 t337 t340 t341 w0 _ ?side1 ?side2 A2.out).mono ?_); (case side1 => exact sqi); (case side2 => exact sqj); rintro e w56 ⟨v338, rfl, ho0, hi, hb, hk⟩; refine ⟨_, rfl, ?_⟩; have HO339 := Aside0.mk (Kd.N_lower (Kd.N_mono (ok' := fun k_ => (w.heap.size ≤ k_) ∧ k_ ≠ gb333 ∧ k_ ≠ g) ho0 (fun k_ hk_ => ⟨(Nat.le_trans (keep_size (w := w) (g := g) (row := none) z16_0) hk_), (Kd.freshB (bo BK333) k_ hk_), (IsS48.fresh sqi k_ hk_)⟩)) (keep_size (w := w) (g := g) (row := none) z16_0)); replace BK333 := Aside0.mk (KeepBut.blk hk (g' := gb333) (o := .cells #[.int .i64 0, .int .i64 0, .int .i64 0, .slice none 0 0] 27 (0, 0)) (sqb BK333.out) NB333_0.out (by simp)); replace HK := Aside0.mk (KeepBut.trans z16_0 hk (.inl rfl)); replace HB := Aside0.mk (hb); replace HI0 := Aside0.mk (hi); (try clear hb); (try clear hk); (try clear hi); (try clear ho0)) | ((with_reducible refine gate_dst (N := 3) rfl ?_); refine bx (N := 3) (cs := #[.int .i64 0, .int .i64 0, .int .i64 0, .slice none 0 0]) (t := 27) ?_; intro gb342 hg w57 hbox hb; replace HO339 := Aside0.mk (Kd.N_below (Kd.N_elderB z16_2 gb342 (Nat.le_of_eq hg.symm)) hb); replace HB := Aside0.mk (below_step sqj hb); have BK342 := Aside0.mk (hbox); have GW342 := Aside0.mk ((z16_3 : w.heap.size ≤ gb342)); have GE342 := Aside0.mk ((Nat.le_trans HW0.out (z16_3 : w.heap.size ≤ gb342) : w0.heap.size ≤ gb342)); replace HK := Aside0.mk (KeepBut.trans z16_0 (KeepBut.of_below hb g none) (.inl rfl)); have NB333_342 := Aside0.mk ((by rw [hg]; exact Nat.ne_of_lt (blk_lt (bo BK333)) : gb333 ≠ gb342)); have NB342_333 := Aside0.mk ((by rw [hg]; exact Nat.ne_of_gt (blk_lt (bo BK333)) : gb342 ≠ gb333)); replace BK333 := Aside0.mk (blk_below (bo BK333) hb); have NB0_342 := Aside0.mk ((z16_5 : g ≠ gb342)); have NB342_0 := Aside0.mk ((z16_7 : gb342 ≠ g)); replace HI0 := Aside0.mk (IsS48.below sqi hb); clear hb hbox hg; have hnb58 := NB342_333.out; have hnc58 := NB333_342.out; have hnb59 := NB342_0.out; have hnc59 := NB0_342.out; obtain ⟨hcz60_0, hcz60_1, hcz60_2, hcz60_3, hfz60_0, hfz60_1, hfz60_2, hfz60_3⟩ := sd4 BK342.out; obtain ⟨Ao61, co61, eo61⟩ := Kd.N_slice HO339.out; subst eo61) | ((with_reducible refine gate_callee (f := 25) rfl ?_); refine goesL_ (some 7) rfl rfl Tryd.func25 sqk rfl #[.pointer (some ⟨g, 0, none⟩), .int .i64 8] rfl sqm ?_; (with_reducible refine (spec_l1Below.calls g s0_0 t340 t341 8 t343 t344 t345 w0 _ ?side1 ?side2 A3.out).mono ?_); (case side1 => exact sqi); (case side2 => exact sqj); rintro e w62 ⟨rfl, hi, hb, hk⟩; refine ⟨_, rfl, ?_⟩; replace BK333 := Aside0.mk (KeepBut.blk hk (g' := gb333) (o := .cells #[.int .i64 0, .int .i64 0, .int .i64 0, .slice none 0 0] 27 (0, 0)) (bp BK333) NB333_0.out (by simp)); replace HO339 := Aside0.mk (Kd.N_mono (Kd.N_keep (Kd.N_mono (ok := fun k_ => ((((w.heap.size ≤ k_)) ∧ (k_ ≠ gb333 ∧ k_ ≠ g)) ∧ k_ ≠ gb342)) (by (with_reducible repeat (first | apply Kd.N_alloc | apply Kd.N_drewN | apply Kd.N_drew)); exact (Kd.N_mono (Kd.N_far (p := ⟨gb342, 3, none⟩) (Kd.N_far (p := ⟨gb342, 2, none⟩) (Kd.N_far (p := ⟨gb342, 1, none⟩) (Kd.N_far (p := ⟨gb342, 0, none⟩) (Kd.N_mono HO339.out (fun k_ hk => (⟨hk, hk.2⟩ : _ ∧ k_ ≠ gb342))) (fun _ hk => hk.2) (.int .i64 t334)) (fun _ hk => hk.2) (.int .i64 t335)) (fun _ hk => hk.2) (.int .i64 t336)) (fun _ hk => hk.2) (.slice Ao61 t337.length co61)) (fun _ h_ => h_.1))) (fun k_ hk_ => (⟨hk_, hk_.1.2.2⟩ : _ ∧ k_ ≠ g))) hk (fun _ h => h.2)) (fun _ h => h.1)); replace BK342 := Aside0.mk (KeepBut.blk hk (g' := gb342) (o := .cells #[.int .i64 t334, .int .i64 t335, .int .i64 t336, .slice Ao61 t337.length co61] 27 (0, 0)) (bp BK342) NB342_0.out (by simp)); replace HK := Aside0.mk (KeepBut.trans z16_1 hk (.inl rfl)); replace HB := Aside0.mk (hb); replace HI0 := Aside0.mk (hi); (try clear hb); (try clear hk); (try clear hi)))
      replace HO339 := Aside0.mk (Kd.N_drew HO339.out)
      replace BK333 := Aside0.mk (blk_drew BK333.out)
      replace BK342 := Aside0.mk (blk_drew BK342.out)
      replace HI0 := Aside0.mk (IsS48.drew HI0.out)
      replace HK := Aside0.mk (keep_drew HK.out)
      replace HB := Aside0.mk (below_drew1 HB.out)
      refine start_ (n := 8) (S := fun w' => w'.cell? ⟨gb342, 0, none⟩ = some (.int .i64 t334) ∧ w'.cell? ⟨gb342, 1, none⟩ = some (.int .i64 t335) ∧ w'.cell? ⟨gb342, 2, none⟩ = some (.int .i64 t336) ∧ w'.cell? ⟨gb342, 3, none⟩ = some (.slice Ao61 t337.length co61)) (ds := [7]) #[false, false, false, false, false, false, false, false] sqk rfl rfl (sc4 BK342.out) (fun hHeld => ?_); refine with_tabW spec_l15Any.tab10 spec_l15Any.bits10 (fun HT_ HW_ => ?_)
      generalize w62.drew = w63 at HO339 BK333 BK342 HI0 HK HB hHeld ⊢
      refine pu 0 27 ?_; refine pu 2 29 ?_; refine ta 1 28 ?_
      refine on 3 (some 30) (fun K hK => ?_)
      refine goes_ Tryd.func29 sqk rfl #[.pointer (some ⟨g, 0, none⟩)] (by rfl) rfl rfl sqm ?_
      with_reducible refine (spec_l15Leaf.calls k g s0_0 t344 t345 t361 t362 t363 t364 t367 t368 w0 _ ?side1 ?side2 A53.out).mono ?_
      (case side1 => exact sqi)
      (case side2 => exact sqj)
      rintro e w64 ⟨v365, rfl, ho0, hi, hb, hk⟩
      refine ⟨_, rfl, ?_⟩
      have HO366 := Aside0.mk (Kd.N_lower (Kd.N_mono (ok' := fun k_ => (w.heap.size ≤ k_) ∧ some k_ ≠ (.slice Ao61 t337.length co61 : Value).ownBlock ∧ k_ ≠ gb333 ∧ k_ ≠ gb342 ∧ k_ ≠ g) (Kd.R_N (Kd.R_bound ho0)) (fun k_ hk_ => ⟨(Nat.le_trans (keep_size (w := w) (g := g) (row := none) z16_1) hk_.2.1), (Kd.fresh' (Kd.N_lt z16_2) k_ hk_.2.1), (Kd.freshB (bo BK333) k_ hk_.2.1), (Kd.freshB (bo BK342) k_ hk_.2.1), (IsS48.fresh sqi k_ hk_.2.1)⟩)) (keep_size (w := w) (g := g) (row := none) z16_1))
      replace BK333 := Aside0.mk (KeepBut.blk hk (g' := gb333) (o := .cells #[.int .i64 0, .int .i64 0, .int .i64 0, .slice none 0 0] 27 (0, 0)) (sqb BK333.out) NB333_0.out (by simp))
      replace HO339 := Aside0.mk (Kd.N_mono (Kd.N_told (Kd.N_oldK (Kd.N_mono (ok := fun k_ => ((((w.heap.size ≤ k_)) ∧ (k_ ≠ gb333 ∧ k_ ≠ g)) ∧ k_ ≠ gb342)) z16_2 (fun k_ hk_ => (⟨hk_, hk_.1.2.2⟩ : _ ∧ k_ ≠ g))) hk) (Kd.N_base (Kd.R_N ho0))) (fun _ h_ => h_.1))
      replace BK342 := Aside0.mk (KeepBut.blk hk (g' := gb342) (o := .cells #[.int .i64 t334, .int .i64 t335, .int .i64 t336, .slice Ao61 t337.length co61] 27 (0, 0)) (sqb BK342.out) NB342_0.out (by simp))
      replace HK := Aside0.mk (KeepBut.trans z16_1 hk (.inl rfl))
      replace HB := Aside0.mk (hb)
      replace HI0 := Aside0.mk (hi)
      (try clear hb)
      (try clear hb2)
      (try clear hk)
      (try clear hi)
      (try clear ho0)
      obtain ⟨Ao66, co66, eo66⟩ := Kd.N_slice HO366.out
      (first | subst eo66 | (injection eo66 with f1_ f2_ f3_; have f4_ := f1_.symm; have f5_ := f3_.symm; clear f1_ f2_ f3_; subst f4_; subst f5_))
      refine hK.out _ _ (sc4 BK342.out) (fun hHeld => ?_)
      clear hK K; refine no 30 ?_
      refine on 4 (some 31) (fun K hK => ?_)
      refine value_ (w1 := ?_) (v := ?_) (by rfl) rfl ?_ ?_
      rotate_left 2
      ·go_simp
       constructor
       ·rfl
       ·rfl
      refine hK.out _ _ ⟨(blk_cell (blk_alloc BK342.out _) 0).trans rfl, (blk_cell (blk_alloc BK342.out _) 1).trans rfl, (blk_cell (blk_alloc BK342.out _) 2).trans rfl, (blk_cell (blk_alloc BK342.out _) 3).trans rfl⟩ (fun hHeld => ?_)
      clear hK K; refine no 31 ?_
      refine on 5 (some 32) (fun K hK => ?_)
      refine Kd.N_append_step k27 w.heap.size (by rfl) (.tmp 28) (.tmp 31) 25 27 (.agg #[(.int .i64 0), (.int .i64 0), (.int .i64 0), (.slice none 0 0)]) 48 rfl Tryd.underlying25 info27 rfl (by decide) (by omega) (.slice Ao61 t337.length co61) t337 (⟨t361, t362, t363, t364⟩ : S27) [.int .i64 t361, .int .i64 t362, .int .i64 t363, .slice Ao66 t364.length co66] (fun k_ => (w.heap.size ≤ k_) ∧ k_ ≠ gb333 ∧ k_ ≠ gb342 ∧ k_ ≠ g) (fun k_ => ((fun k_ => (w.heap.size ≤ k_) ∧ k_ ≠ gb333 ∧ k_ ≠ gb342 ∧ k_ ≠ g)) k_ ∧ some k_ ≠ (.slice Ao61 t337.length co61 : Value).ownBlock) rfl rfl ?aP (fun _ hk => hk) ?aF ?aO (Below.refl _ _) ?aS ?aL ?_
      (case aP => exact (k27_mkF _ _ (⟨t361, t362, t363, t364⟩ : S27) (Kd.N_reads' (Kd.N_mono (ok' := (fun k_ => ((fun k_ => (w.heap.size ≤ k_) ∧ k_ ≠ gb333 ∧ k_ ≠ gb342 ∧ k_ ≠ g)) k_ ∧ some k_ ≠ (.slice Ao61 t337.length co61 : Value).ownBlock)) (HO366.out) (fun k_ hk => ⟨⟨hk.1, ⟨hk.2.2.1, ⟨hk.2.2.2.1, hk.2.2.2.2⟩⟩⟩, hk.2.1⟩))).2.1 (Kd.N_F (Kd.N_mono (ok' := (fun k_ => ((fun k_ => (w.heap.size ≤ k_) ∧ k_ ≠ gb333 ∧ k_ ≠ gb342 ∧ k_ ≠ g)) k_ ∧ some k_ ≠ (.slice Ao61 t337.length co61 : Value).ownBlock)) (HO366.out) (fun k_ hk => ⟨⟨hk.1, ⟨hk.2.2.1, ⟨hk.2.2.2.1, hk.2.2.2.2⟩⟩⟩, hk.2.1⟩)))))
      (case aF => exact (fun k_ hk => ⟨(Nat.le_trans (keep_size (w := w) (g := g) (row := none) z16_1) hk), Kd.freshB (bo BK333) k_ hk, Kd.freshB (bo BK342) k_ hk, IsS48.fresh sqi k_ hk⟩))
      (case aO => exact (by (with_reducible repeat (first | apply Kd.N_alloc | apply Kd.N_drewN | apply Kd.N_drew)); exact Kd.N_mono HO339.out (fun _ hk => ⟨hk.1.1.1, ⟨hk.1.1.2.1, ⟨hk.1.2, hk.1.1.2.2⟩⟩⟩)))
      (case aS => exact (keep_size (w := w) (g := g) (row := none) z16_1))
      (case aL => have := LMc54.out; omega)
      intro v370 w65 ho hb hg hat
      rw [← Ny369.out] at ho
      replace BK333 := Aside0.mk (blk_grown (bo BK333) hg (Kd.N_away HO339.out (fun _ hk => hk.1.1.2.1)))
      replace BK342 := Aside0.mk (blk_grown (bo BK342) hg (Kd.N_away HO339.out (fun _ hk => hk.1.2)))
      replace HB := Aside0.mk (below_weaken sqj HL.out hb)
      replace HI0 := Aside0.mk (IsS48.grown sqi hg (IsS48.own_neN HI0.out HO339.out (by decide)))
      replace HK := Aside0.mk (KeepBut.trans z16_1 (KeepBut.of_grown hg g) (Kd.N_base2 HO339.out))
      have HO371 := Aside0.mk (ho)
      clear HO339 HO366; clear ho hb hg hat
      obtain ⟨Ao67, co67, eo67⟩ := Kd.N_slice HO371.out
      (first | subst eo67 | (injection eo67 with f1_ f2_ f3_; have f4_ := f1_.symm; have f5_ := f3_.symm; clear f1_ f2_ f3_; subst f4_; subst f5_))
      refine hK.out _ _ (sc4 BK342.out) (fun hHeld => ?_)
      clear hK K; refine no 32 ?_; refine pu 6 33 ?_
      refine last_ (i := 7) (N := none) #[true, true, true, true, true, true, true, true] rfl rfl (one_of HT_.out sqk) (by decide) (fun K hK => ?_)
      have hs68 : w65.cell? ⟨gb342, 3, none⟩ = some (.slice Ao61 t337.length co61) := (blk_cell BK342.out 3).trans rfl
      have hfs68 := blk_frozen BK342.out 3
      have hns68_0 := NB333_342.out
      have hms68_0 := NB342_333.out
      refine skip_ (w1 := ?_) (by rfl) rfl ?_ ?_
      rotate_left
      ·go_simp
       rfl
      refine hK.out _ _ ?_
      clear hK K
      refine dn ?_
      obtain ⟨hcz69_0, hcz69_1, hcz69_2, hcz69_3, hfz69_0, hfz69_1, hfz69_2, hfz69_3⟩ := sd4 BK342.out
      have hnb70 := NB333_0.out
      have hnc70 := NB0_333.out
      obtain ⟨hcz71_0, hcz71_1, hcz71_2, hcz71_3, hfz71_0, hfz71_1, hfz71_2, hfz71_3⟩ := sd4 BK333.out
      try go_wp2
      refine bodyPost_ret (results_cell_row rfl _ _ gb333 27 #[.int .i64 t334, .int .i64 t335, .int .i64 t336, .slice Ao67 y369.length co67] (0, 0) _ rfl ?_ Tryd.underlying27 rfl sqk) rfl ?_; exact bp BK333
      exact ⟨_, sqe, by (with_reducible repeat (first | apply Kd.N_alloc | apply Kd.N_drewN | apply Kd.N_drew)); exact Kd.N_mono (Kd.N_far (p := ⟨gb333, 3, none⟩) (Kd.N_far (p := ⟨gb333, 2, none⟩) (Kd.N_far (p := ⟨gb333, 1, none⟩) (Kd.N_far (p := ⟨gb333, 0, none⟩) (Kd.N_far (p := ⟨gb342, 3, none⟩) (Kd.N_mono (Kd.N_mono HO371.out (fun k_ hk => (⟨hk, hk.2.2.1⟩ : _ ∧ k_ ≠ gb342))) (fun k_ hk => (⟨hk, hk.1.2.1⟩ : _ ∧ k_ ≠ gb333))) (fun _ hk => hk.1.2) (.slice Ao67 y369.length co67)) (fun _ hk => hk.2) (.int .i64 t334)) (fun _ hk => hk.2) (.int .i64 t335)) (fun _ hk => hk.2) (.int .i64 t336)) (fun _ hk => hk.2) (.slice Ao67 y369.length co67)) (fun _ hk => hk.1.1.1), sqi, sqj, by repeat (first | (with_reducible first | exact HK.out | apply KeepBut.set_ | apply keep_drewN | apply keep_drew | apply keep_alloc | refine keep_far ?_ GW333.out _ | refine keep_far ?_ GW342.out _) | exact HK.out)⟩
     ·rw [if_neg c54] at H
      exact absurd H (by simp)
    ·rw [if_neg c52] at H
     have c52b0 : (t343 == 3) = false := beq_eq_false_iff_ne.mpr c52
     have c52b1 : (t343 != 3) = true := bne_iff_ne.mpr c52
     simp only [Option.some.injEq, Prod.mk.injEq] at H
     obtain ⟨rfl, rfl, rfl, rfl, rfl, rfl⟩ := H
     go_enter Tryd.func16, Tryd.ntmps16
     go_wp2_with (first | ((with_reducible refine gate_dst (N := 2) rfl ?_); refine bx (N := 2) (cs := #[.int .i64 0, .int .i64 0, .int .i64 0, .slice none 0 0]) (t := 27) ?_; intro gb333 hg w72 hbox hb; replace HB := Aside0.mk (below_step sqj hb); have BK333 := Aside0.mk (hbox); have GW333 := Aside0.mk ((z16_4 : w.heap.size ≤ gb333)); have GE333 := Aside0.mk ((Nat.le_trans HW0.out (z16_4 : w.heap.size ≤ gb333) : w0.heap.size ≤ gb333)); replace HK := Aside0.mk (KeepBut.trans sqp (KeepBut.of_below hb g none) (.inl rfl)); have NB0_333 := Aside0.mk ((z16_6 : g ≠ gb333)); have NB333_0 := Aside0.mk ((z16_8 : gb333 ≠ g)); replace HI0 := Aside0.mk (IsS48.below sqi hb); clear hb hbox hg) | ((with_reducible refine gate_callee (f := 27) rfl ?_); refine goesL_ (some 5) rfl rfl Tryd.func27 sqk rfl #[.pointer (some ⟨g, 0, none⟩), .int .i64 2] rfl sqm ?_; (with_reducible refine (spec_l15Cond.calls k g s0_0 s0_1 s0_2 2 t334 t335 t336 t337 t340 t341 w0 _ ?side1 ?side2 A2.out).mono ?_); (case side1 => exact sqi); (case side2 => exact sqj); rintro e w73 ⟨v338, rfl, ho0, hi, hb, hk⟩; refine ⟨_, rfl, ?_⟩; have HO339 := Aside0.mk (Kd.N_lower (Kd.N_mono (ok' := fun k_ => (w.heap.size ≤ k_) ∧ k_ ≠ gb333 ∧ k_ ≠ g) ho0 (fun k_ hk_ => ⟨(Nat.le_trans (keep_size (w := w) (g := g) (row := none) z16_0) hk_), (Kd.freshB (bo BK333) k_ hk_), (IsS48.fresh sqi k_ hk_)⟩)) (keep_size (w := w) (g := g) (row := none) z16_0)); replace BK333 := Aside0.mk (KeepBut.blk hk (g' := gb333) (o := .cells #[.int .i64 0, .int .i64 0, .int .i64 0, .slice none 0 0] 27 (0, 0)) (sqb BK333.out) NB333_0.out (by simp)); replace HK := Aside0.mk (KeepBut.trans z16_0 hk (.inl rfl)); replace HB := Aside0.mk (hb); replace HI0 := Aside0.mk (hi); (try clear hb); (try clear hk); (try clear hi); (try clear ho0)) | ((with_reducible refine gate_dst (N := 3) rfl ?_); refine bx (N := 3) (cs := #[.int .i64 0, .int .i64 0, .int .i64 0, .slice none 0 0]) (t := 27) ?_; intro gb342 hg w74 hbox hb; replace HO339 := Aside0.mk (Kd.N_below (Kd.N_elderB z16_2 gb342 (Nat.le_of_eq hg.symm)) hb); replace HB := Aside0.mk (below_step sqj hb); have BK342 := Aside0.mk (hbox); have GW342 := Aside0.mk ((z16_3 : w.heap.size ≤ gb342)); have GE342 := Aside0.mk ((Nat.le_trans HW0.out (z16_3 : w.heap.size ≤ gb342) : w0.heap.size ≤ gb342)); replace HK := Aside0.mk (KeepBut.trans z16_0 (KeepBut.of_below hb g none) (.inl rfl)); have NB333_342 := Aside0.mk ((by rw [hg]; exact Nat.ne_of_lt (blk_lt (bo BK333)) : gb333 ≠ gb342)); have NB342_333 := Aside0.mk ((by rw [hg]; exact Nat.ne_of_gt (blk_lt (bo BK333)) : gb342 ≠ gb333)); replace BK333 := Aside0.mk (blk_below (bo BK333) hb); have NB0_342 := Aside0.mk ((z16_5 : g ≠ gb342)); have NB342_0 := Aside0.mk ((z16_7 : gb342 ≠ g)); replace HI0 := Aside0.mk (IsS48.below sqi hb); clear hb hbox hg; have hnb75 := NB342_333.out; have hnc75 := NB333_342.out; have hnb76 := NB342_0.out; have hnc76 := NB0_342.out; obtain ⟨hcz77_0, hcz77_1, hcz77_2, hcz77_3, hfz77_0, hfz77_1, hfz77_2, hfz77_3⟩ := sd4 BK342.out; obtain ⟨Ao78, co78, eo78⟩ := Kd.N_slice HO339.out; subst eo78) | ((with_reducible refine gate_callee (f := 25) rfl ?_); refine goesL_ (some 7) rfl rfl Tryd.func25 sqk rfl #[.pointer (some ⟨g, 0, none⟩), .int .i64 8] rfl sqm ?_; (with_reducible refine (spec_l1Below.calls g s0_0 t340 t341 8 t343 t344 t345 w0 _ ?side1 ?side2 A3.out).mono ?_); (case side1 => exact sqi); (case side2 => exact sqj); rintro e w79 ⟨rfl, hi, hb, hk⟩; refine ⟨_, rfl, ?_⟩; replace BK333 := Aside0.mk (KeepBut.blk hk (g' := gb333) (o := .cells #[.int .i64 0, .int .i64 0, .int .i64 0, .slice none 0 0] 27 (0, 0)) (bp BK333) NB333_0.out (by simp)); replace HO339 := Aside0.mk (Kd.N_mono (Kd.N_keep (Kd.N_mono (ok := fun k_ => ((((w.heap.size ≤ k_)) ∧ (k_ ≠ gb333 ∧ k_ ≠ g)) ∧ k_ ≠ gb342)) (by (with_reducible repeat (first | apply Kd.N_alloc | apply Kd.N_drewN | apply Kd.N_drew)); exact (Kd.N_mono (Kd.N_far (p := ⟨gb342, 3, none⟩) (Kd.N_far (p := ⟨gb342, 2, none⟩) (Kd.N_far (p := ⟨gb342, 1, none⟩) (Kd.N_far (p := ⟨gb342, 0, none⟩) (Kd.N_mono HO339.out (fun k_ hk => (⟨hk, hk.2⟩ : _ ∧ k_ ≠ gb342))) (fun _ hk => hk.2) (.int .i64 t334)) (fun _ hk => hk.2) (.int .i64 t335)) (fun _ hk => hk.2) (.int .i64 t336)) (fun _ hk => hk.2) (.slice Ao78 t337.length co78)) (fun _ h_ => h_.1))) (fun k_ hk_ => (⟨hk_, hk_.1.2.2⟩ : _ ∧ k_ ≠ g))) hk (fun _ h => h.2)) (fun _ h => h.1)); replace BK342 := Aside0.mk (KeepBut.blk hk (g' := gb342) (o := .cells #[.int .i64 t334, .int .i64 t335, .int .i64 t336, .slice Ao78 t337.length co78] 27 (0, 0)) (bp BK342) NB342_0.out (by simp)); replace HK := Aside0.mk (KeepBut.trans z16_1 hk (.inl rfl)); replace HB := Aside0.mk (hb); replace HI0 := Aside0.mk (hi); (try clear hb); (try clear hk); (try clear hi); obtain ⟨hcz80_0, hcz80_1, hcz80_2, hcz80_3, hfz80_0, hfz80_1, hfz80_2, hfz80_3⟩ := sd4 BK342.out; have hnb81 := NB333_0.out; have hnc81 := NB0_333.out; obtain ⟨hcz82_0, hcz82_1, hcz82_2, hcz82_3, hfz82_0, hfz82_1, hfz82_2, hfz82_3⟩ := sd4 BK333.out))
     refine bodyPost_ret (results_cell_row rfl _ _ gb333 27 #[.int .i64 t334, .int .i64 t335, .int .i64 t336, .slice Ao78 t337.length co78] (0, 0) _ rfl ?_ Tryd.underlying27 rfl sqk) rfl ?_; exact bp BK333
     exact ⟨_, sqe, by (with_reducible repeat (first | apply Kd.N_alloc | apply Kd.N_drewN | apply Kd.N_drew)); exact Kd.N_mono (Kd.N_far (p := ⟨gb333, 3, none⟩) (Kd.N_far (p := ⟨gb333, 2, none⟩) (Kd.N_far (p := ⟨gb333, 1, none⟩) (Kd.N_far (p := ⟨gb333, 0, none⟩) (Kd.N_mono HO339.out (fun k_ hk => (⟨hk, hk.1.2.1⟩ : _ ∧ k_ ≠ gb333))) (fun _ hk => hk.2) (.int .i64 t334)) (fun _ hk => hk.2) (.int .i64 t335)) (fun _ hk => hk.2) (.int .i64 t336)) (fun _ hk => hk.2) (.slice Ao78 t337.length co78)) (fun _ hk => hk.1.1.1), sqi, sqj, by repeat (first | (with_reducible first | exact HK.out | apply KeepBut.set_ | apply keep_drewN | apply keep_drew | apply keep_alloc | refine keep_far ?_ GW333.out _ | refine keep_far ?_ GW342.out _) | exact HK.out)⟩

/-! ### spec_DrawParseCond: function 5 -/
def spec_DrawParseCond.f (k : Nat) (l0 : List Int) : Option (ByteArray) := (spec_l1New.f k l0).bind fun bt372 => ((spec_l1Once.f bt372.1 bt372.2.1 bt372.2.2 3).bind fun bt376 => (if bt376.1 = true then ((spec_l1Str.f bt372.1 bt376.2.1 bt376.2.2 (([(⟨#[]⟩ : ByteArray), (⟨#[116, 114, 117, 101, 32]⟩ : ByteArray), (⟨#[114, 111, 108, 101, 32, 49]⟩ : ByteArray), (⟨#[114, 111, 108, 101, 32, 49, 32, 49, 48, 48, 48, 49]⟩ : ByteArray), (⟨#[114, 111, 108, 101, 32, 54, 32, 49]⟩ : ByteArray), (⟨#[111, 119, 110, 115, 32, 51]⟩ : ByteArray), (⟨#[98, 101, 102, 111, 114, 101, 32, 53]⟩ : ByteArray), (⟨#[110, 111, 116]⟩ : ByteArray), (⟨#[110, 111, 116, 32, 110, 111, 116, 32, 116, 114, 117, 101]⟩ : ByteArray), (⟨#[40, 116, 114, 117, 101, 32, 97, 110, 100, 32, 116, 114, 117, 101, 41]⟩ : ByteArray), (⟨#[40, 116, 114, 117, 101, 32, 111, 114, 32, 111, 119, 110, 115, 32, 51]⟩ : ByteArray), (⟨#[40, 116, 114, 117, 101, 32, 32, 111, 114, 32, 116, 114, 117, 101, 41]⟩ : ByteArray), (⟨#[40, 40, 116, 114, 117, 101, 32, 111, 114, 32, 116, 114, 117, 101, 41, 32, 97, 110, 100, 32, 110, 111, 116, 32, 98, 101, 102, 111, 114, 101, 32, 53, 41]⟩ : ByteArray), (⟨#[104, 101, 97, 108, 116, 104, 32, 48, 51, 32, 49]⟩ : ByteArray), (⟨#[97, 110, 100, 32, 116, 114, 117, 101, 32, 116, 114, 117, 101]⟩ : ByteArray), (⟨#[40, 40, 40, 40, 40, 40, 40, 40, 40, 40, 40, 40, 40, 40, 40, 40, 40, 40, 40, 40]⟩ : ByteArray)] : List ByteArray))).bind fun bt382 => (some bt382.1)) else ((spec_l15Any.f k bt372.1 bt376.2.1 bt376.2.2).bind fun bt385 => ((spec_FormatCond.f k bt385.1 bt385.2.1 bt385.2.2.1 bt385.2.2.2.1).bind fun t393 => (some t393)))))
theorem z5_0 {Q : Prop} (g : Q := by repeat (first | (with_reducible first | exact HB.out | apply below_alloc | apply pw_below_drewN | apply below_drew1 | refine below_set ?_ (IsS48.ge HI375.out)) | exact HB.out)) : Q := g
theorem z5_1 {Q : Prop} (g : Q := by repeat (first | (with_reducible first | exact HI375.out | apply IsS48.alloc | apply IsS48.drewN | apply IsS48.drew | apply IsS48.set_1 | apply IsS48.set_2) | exact HI375.out)) : Q := g
set_option maxHeartbeats 8000000 in
set_option maxRecDepth 100000 in
theorem spec_DrawParseCond.calls (k : Nat) (A0 : Option Addr) (c0 : Nat) (l0 : List Int) (r : ByteArray) (w : World) (hr0 : Kd.C (Kd.int .u8) w A0 l0.length l0) (hc0 : l0.length ≤ c0) (h : spec_DrawParseCond.f k l0 = some r) :
  Calls Tryd.prog 5 #[.slice A0 l0.length c0] w fun e w' => e = .returned (.string r) ∧ Below w.heap.size w w' := by
 have HR0 := Aside0.mk hr0
 have HC0 := Aside0.mk hc0
 clear hr0 hc0
 have HB := Aside0.mk (Below.refl w.heap.size w)
 have H : ((spec_l1New.f k l0).bind fun bt372 => ((spec_l1Once.f bt372.1 bt372.2.1 bt372.2.2 3).bind fun bt376 => (if bt376.1 = true then ((spec_l1Str.f bt372.1 bt376.2.1 bt376.2.2 (([(⟨#[]⟩ : ByteArray), (⟨#[116, 114, 117, 101, 32]⟩ : ByteArray), (⟨#[114, 111, 108, 101, 32, 49]⟩ : ByteArray), (⟨#[114, 111, 108, 101, 32, 49, 32, 49, 48, 48, 48, 49]⟩ : ByteArray), (⟨#[114, 111, 108, 101, 32, 54, 32, 49]⟩ : ByteArray), (⟨#[111, 119, 110, 115, 32, 51]⟩ : ByteArray), (⟨#[98, 101, 102, 111, 114, 101, 32, 53]⟩ : ByteArray), (⟨#[110, 111, 116]⟩ : ByteArray), (⟨#[110, 111, 116, 32, 110, 111, 116, 32, 116, 114, 117, 101]⟩ : ByteArray), (⟨#[40, 116, 114, 117, 101, 32, 97, 110, 100, 32, 116, 114, 117, 101, 41]⟩ : ByteArray), (⟨#[40, 116, 114, 117, 101, 32, 111, 114, 32, 111, 119, 110, 115, 32, 51]⟩ : ByteArray), (⟨#[40, 116, 114, 117, 101, 32, 32, 111, 114, 32, 116, 114, 117, 101, 41]⟩ : ByteArray), (⟨#[40, 40, 116, 114, 117, 101, 32, 111, 114, 32, 116, 114, 117, 101, 41, 32, 97, 110, 100, 32, 110, 111, 116, 32, 98, 101, 102, 111, 114, 101, 32, 53, 41]⟩ : ByteArray), (⟨#[104, 101, 97, 108, 116, 104, 32, 48, 51, 32, 49]⟩ : ByteArray), (⟨#[97, 110, 100, 32, 116, 114, 117, 101, 32, 116, 114, 117, 101]⟩ : ByteArray), (⟨#[40, 40, 40, 40, 40, 40, 40, 40, 40, 40, 40, 40, 40, 40, 40, 40, 40, 40, 40, 40]⟩ : ByteArray)] : List ByteArray))).bind fun bt382 => (some bt382.1)) else ((spec_l15Any.f k bt372.1 bt376.2.1 bt376.2.2).bind fun bt385 => ((spec_FormatCond.f k bt385.1 bt385.2.1 bt385.2.2.1 bt385.2.2.2.1).bind fun t393 => (some t393)))))) = some r := h
 clear h
 obtain ⟨⟨t372, t373, t374⟩, A2, H⟩ := bA H
 dsimp only at H
 obtain ⟨⟨t376, t377, t378⟩, A3, H⟩ := bA H
 dsimp only at H
 by_cases c4 : t376 = true
 ·subst c4
  replace H := iT H
  obtain ⟨y379, hy379⟩ : ∃ y_ : List ByteArray, y_ = (([(⟨#[]⟩ : ByteArray), (⟨#[116, 114, 117, 101, 32]⟩ : ByteArray), (⟨#[114, 111, 108, 101, 32, 49]⟩ : ByteArray), (⟨#[114, 111, 108, 101, 32, 49, 32, 49, 48, 48, 48, 49]⟩ : ByteArray), (⟨#[114, 111, 108, 101, 32, 54, 32, 49]⟩ : ByteArray), (⟨#[111, 119, 110, 115, 32, 51]⟩ : ByteArray), (⟨#[98, 101, 102, 111, 114, 101, 32, 53]⟩ : ByteArray), (⟨#[110, 111, 116]⟩ : ByteArray), (⟨#[110, 111, 116, 32, 110, 111, 116, 32, 116, 114, 117, 101]⟩ : ByteArray), (⟨#[40, 116, 114, 117, 101, 32, 97, 110, 100, 32, 116, 114, 117, 101, 41]⟩ : ByteArray), (⟨#[40, 116, 114, 117, 101, 32, 111, 114, 32, 111, 119, 110, 115, 32, 51]⟩ : ByteArray), (⟨#[40, 116, 114, 117, 101, 32, 32, 111, 114, 32, 116, 114, 117, 101, 41]⟩ : ByteArray), (⟨#[40, 40, 116, 114, 117, 101, 32, 111, 114, 32, 116, 114, 117, 101, 41, 32, 97, 110, 100, 32, 110, 111, 116, 32, 98, 101, 102, 111, 114, 101, 32, 53, 41]⟩ : ByteArray), (⟨#[104, 101, 97, 108, 116, 104, 32, 48, 51, 32, 49]⟩ : ByteArray), (⟨#[97, 110, 100, 32, 116, 114, 117, 101, 32, 116, 114, 117, 101]⟩ : ByteArray), (⟨#[40, 40, 40, 40, 40, 40, 40, 40, 40, 40, 40, 40, 40, 40, 40, 40, 40, 40, 40, 40]⟩ : ByteArray)] : List ByteArray)) := ⟨_, rfl⟩
  replace H : ((spec_l1Str.f t372 t377 t378 y379).bind fun bt382 => (some bt382.1)) = some r := by first | (rw [hy379]; with_reducible exact H) | (have H2_ := (Option.bind_some _ _).symm.trans H; rw [hy379]; with_reducible exact H2_) | (have H2_ := (Option.bind_some _ _).symm.trans H; with_reducible exact H2_) | with_reducible exact H | (rw [hy379]; exact H) | exact H
  have Ny379 := Aside0.mk hy379
  clear hy379
  obtain ⟨⟨t382, t383, t384⟩, A5, H⟩ := bA H
  dsimp only at H
  obtain rfl := Option.some.inj H
  go_enter Tryd.func5, Tryd.ntmps5
  go_wp2_with (first | ((with_reducible refine gate_callee (f := 12) rfl ?_); refine goesL_ (some 5) rfl rfl Tryd.func12 sqk rfl #[.slice A0 l0.length c0] rfl sqm ?_; (with_reducible refine (spec_l1New.calls k _ _ l0 t372 t373 t374 w _ ?side1 ?side2 ?side3 A2.out).mono ?_); (case side1 => exact sqh); (case side2 => exact HR0.out); (case side3 => exact HC0.out); rintro e w6 ⟨g375, rfl, hi, hb, hb2⟩; refine ⟨_, rfl, ?_⟩; replace HB := Aside0.mk (hb); have HI375 := Aside0.mk (hi); (try clear hb); (try clear hb2); (try clear hi)) | ((with_reducible refine gate_callee (f := 13) rfl ?_); refine goesL_ (some 7) rfl rfl Tryd.func13 sqk rfl #[.pointer (some ⟨g375, 0, none⟩), .int .i64 3] rfl sqm ?_; (with_reducible refine (spec_l1Once.calls g375 t372 t373 t374 3 true t377 t378 w _ ?side1 ?side2 A3.out).mono ?_); (case side1 => repeat (first | (with_reducible first | exact HI375.out | apply IsS48.alloc | apply IsS48.drewN | apply IsS48.drew | apply IsS48.set_1 | apply IsS48.set_2) | exact HI375.out)); (case side2 => exact z5_0); rintro e w7 ⟨rfl, hi, hb, hk⟩; refine ⟨_, rfl, ?_⟩; replace HB := Aside0.mk (hb); replace HI375 := Aside0.mk (hi); (try clear hb); (try clear hk); (try clear hi)) | ((with_reducible refine gate_dst (N := 9) rfl ?_); refine Kd.R_lit Kd.string _ 9 ?hg (N := 9) ?hd (xs := ([(⟨#[]⟩ : ByteArray), (⟨#[116, 114, 117, 101, 32]⟩ : ByteArray), (⟨#[114, 111, 108, 101, 32, 49]⟩ : ByteArray), (⟨#[114, 111, 108, 101, 32, 49, 32, 49, 48, 48, 48, 49]⟩ : ByteArray), (⟨#[114, 111, 108, 101, 32, 54, 32, 49]⟩ : ByteArray), (⟨#[111, 119, 110, 115, 32, 51]⟩ : ByteArray), (⟨#[98, 101, 102, 111, 114, 101, 32, 53]⟩ : ByteArray), (⟨#[110, 111, 116]⟩ : ByteArray), (⟨#[110, 111, 116, 32, 110, 111, 116, 32, 116, 114, 117, 101]⟩ : ByteArray), (⟨#[40, 116, 114, 117, 101, 32, 97, 110, 100, 32, 116, 114, 117, 101, 41]⟩ : ByteArray), (⟨#[40, 116, 114, 117, 101, 32, 111, 114, 32, 111, 119, 110, 115, 32, 51]⟩ : ByteArray), (⟨#[40, 116, 114, 117, 101, 32, 32, 111, 114, 32, 116, 114, 117, 101, 41]⟩ : ByteArray), (⟨#[40, 40, 116, 114, 117, 101, 32, 111, 114, 32, 116, 114, 117, 101, 41, 32, 97, 110, 100, 32, 110, 111, 116, 32, 98, 101, 102, 111, 114, 101, 32, 53, 41]⟩ : ByteArray), (⟨#[104, 101, 97, 108, 116, 104, 32, 48, 51, 32, 49]⟩ : ByteArray), (⟨#[97, 110, 100, 32, 116, 114, 117, 101, 32, 116, 114, 117, 101]⟩ : ByteArray), (⟨#[40, 40, 40, 40, 40, 40, 40, 40, 40, 40, 40, 40, 40, 40, 40, 40, 40, 40, 40, 40]⟩ : ByteArray)] : List ByteArray)) (inner := [.string (⟨#[]⟩ : ByteArray), .string (⟨#[116, 114, 117, 101, 32]⟩ : ByteArray), .string (⟨#[114, 111, 108, 101, 32, 49]⟩ : ByteArray), .string (⟨#[114, 111, 108, 101, 32, 49, 32, 49, 48, 48, 48, 49]⟩ : ByteArray), .string (⟨#[114, 111, 108, 101, 32, 54, 32, 49]⟩ : ByteArray), .string (⟨#[111, 119, 110, 115, 32, 51]⟩ : ByteArray), .string (⟨#[98, 101, 102, 111, 114, 101, 32, 53]⟩ : ByteArray), .string (⟨#[110, 111, 116]⟩ : ByteArray), .string (⟨#[110, 111, 116, 32, 110, 111, 116, 32, 116, 114, 117, 101]⟩ : ByteArray), .string (⟨#[40, 116, 114, 117, 101, 32, 97, 110, 100, 32, 116, 114, 117, 101, 41]⟩ : ByteArray), .string (⟨#[40, 116, 114, 117, 101, 32, 111, 114, 32, 111, 119, 110, 115, 32, 51]⟩ : ByteArray), .string (⟨#[40, 116, 114, 117, 101, 32, 32, 111, 114, 32, 116, 114, 117, 101, 41]⟩ : ByteArray), .string (⟨#[40, 40, 116, 114, 117, 101, 32, 111, 114, 32, 116, 114, 117, 101, 41, 32, 97, 110, 100, 32, 110, 111, 116, 32, 98, 101, 102, 111, 114, 101, 32, 53, 41]⟩ : ByteArray), .string (⟨#[104, 101, 97, 108, 116, 104, 32, 48, 51, 32, 49]⟩ : ByteArray), .string (⟨#[97, 110, 100, 32, 116, 114, 117, 101, 32, 116, 114, 117, 101]⟩ : ByteArray), .string (⟨#[40, 40, 40, 40, 40, 40, 40, 40, 40, 40, 40, 40, 40, 40, 40, 40, 40, 40, 40, 40]⟩ : ByteArray)]) (ok := fun _ => True) (okp := fun _ => True) ?hr ?hp (fun _ hk => hk) trivial (Below.refl _ _) (Nat.le_refl _) (by simp) ?_; (case hd => rfl); (case hg => rfl); (case hr => first | (go_simp; done) | (go_simp; rfl)); (case hp => exact (Reps.one (show Kd.M Kd.string _ _ _ (⟨#[]⟩ : ByteArray) [.string (⟨#[]⟩ : ByteArray)] from rfl) (Reps.one (show Kd.M Kd.string _ _ _ (⟨#[116, 114, 117, 101, 32]⟩ : ByteArray) [.string (⟨#[116, 114, 117, 101, 32]⟩ : ByteArray)] from rfl) (Reps.one (show Kd.M Kd.string _ _ _ (⟨#[114, 111, 108, 101, 32, 49]⟩ : ByteArray) [.string (⟨#[114, 111, 108, 101, 32, 49]⟩ : ByteArray)] from rfl) (Reps.one (show Kd.M Kd.string _ _ _ (⟨#[114, 111, 108, 101, 32, 49, 32, 49, 48, 48, 48, 49]⟩ : ByteArray) [.string (⟨#[114, 111, 108, 101, 32, 49, 32, 49, 48, 48, 48, 49]⟩ : ByteArray)] from rfl) (Reps.one (show Kd.M Kd.string _ _ _ (⟨#[114, 111, 108, 101, 32, 54, 32, 49]⟩ : ByteArray) [.string (⟨#[114, 111, 108, 101, 32, 54, 32, 49]⟩ : ByteArray)] from rfl) (Reps.one (show Kd.M Kd.string _ _ _ (⟨#[111, 119, 110, 115, 32, 51]⟩ : ByteArray) [.string (⟨#[111, 119, 110, 115, 32, 51]⟩ : ByteArray)] from rfl) (Reps.one (show Kd.M Kd.string _ _ _ (⟨#[98, 101, 102, 111, 114, 101, 32, 53]⟩ : ByteArray) [.string (⟨#[98, 101, 102, 111, 114, 101, 32, 53]⟩ : ByteArray)] from rfl) (Reps.one (show Kd.M Kd.string _ _ _ (⟨#[110, 111, 116]⟩ : ByteArray) [.string (⟨#[110, 111, 116]⟩ : ByteArray)] from rfl) (Reps.one (show Kd.M Kd.string _ _ _ (⟨#[110, 111, 116, 32, 110, 111, 116, 32, 116, 114, 117, 101]⟩ : ByteArray) [.string (⟨#[110, 111, 116, 32, 110, 111, 116, 32, 116, 114, 117, 101]⟩ : ByteArray)] from rfl) (Reps.one (show Kd.M Kd.string _ _ _ (⟨#[40, 116, 114, 117, 101, 32, 97, 110, 100, 32, 116, 114, 117, 101, 41]⟩ : ByteArray) [.string (⟨#[40, 116, 114, 117, 101, 32, 97, 110, 100, 32, 116, 114, 117, 101, 41]⟩ : ByteArray)] from rfl) (Reps.one (show Kd.M Kd.string _ _ _ (⟨#[40, 116, 114, 117, 101, 32, 111, 114, 32, 111, 119, 110, 115, 32, 51]⟩ : ByteArray) [.string (⟨#[40, 116, 114, 117, 101, 32, 111, 114, 32, 111, 119, 110, 115, 32, 51]⟩ : ByteArray)] from rfl) (Reps.one (show Kd.M Kd.string _ _ _ (⟨#[40, 116, 114, 117, 101, 32, 32, 111, 114, 32, 116, 114, 117, 101, 41]⟩ : ByteArray) [.string (⟨#[40, 116, 114, 117, 101, 32, 32, 111, 114, 32, 116, 114, 117, 101, 41]⟩ : ByteArray)] from rfl) (Reps.one (show Kd.M Kd.string _ _ _ (⟨#[40, 40, 116, 114, 117, 101, 32, 111, 114, 32, 116, 114, 117, 101, 41, 32, 97, 110, 100, 32, 110, 111, 116, 32, 98, 101, 102, 111, 114, 101, 32, 53, 41]⟩ : ByteArray) [.string (⟨#[40, 40, 116, 114, 117, 101, 32, 111, 114, 32, 116, 114, 117, 101, 41, 32, 97, 110, 100, 32, 110, 111, 116, 32, 98, 101, 102, 111, 114, 101, 32, 53, 41]⟩ : ByteArray)] from rfl) (Reps.one (show Kd.M Kd.string _ _ _ (⟨#[104, 101, 97, 108, 116, 104, 32, 48, 51, 32, 49]⟩ : ByteArray) [.string (⟨#[104, 101, 97, 108, 116, 104, 32, 48, 51, 32, 49]⟩ : ByteArray)] from rfl) (Reps.one (show Kd.M Kd.string _ _ _ (⟨#[97, 110, 100, 32, 116, 114, 117, 101, 32, 116, 114, 117, 101]⟩ : ByteArray) [.string (⟨#[97, 110, 100, 32, 116, 114, 117, 101, 32, 116, 114, 117, 101]⟩ : ByteArray)] from rfl) (Reps.one (show Kd.M Kd.string _ _ _ (⟨#[40, 40, 40, 40, 40, 40, 40, 40, 40, 40, 40, 40, 40, 40, 40, 40, 40, 40, 40, 40]⟩ : ByteArray) [.string (⟨#[40, 40, 40, 40, 40, 40, 40, 40, 40, 40, 40, 40, 40, 40, 40, 40, 40, 40, 40, 40]⟩ : ByteArray)] from rfl) (Reps.none _ _)))))))))))))))))); intro v380 w8 ho9 hb hg_ hnew_; clear hg_ hnew_; (first | rw [← Ny379.out] at ho9 | (simp only [Int.reduceToNat] at ho9; rw [← Ny379.out] at ho9)); have HO381 := Aside0.mk (Kd.R_lower ho9 (below_size z5_0)); replace HB := Aside0.mk (below_step z5_0 hb); replace HI375 := Aside0.mk (IsS48.below z5_1 hb); clear hb ho9; obtain ⟨Ao10, co10, eo10⟩ := Kd.R_slice HO381.out; subst eo10) | ((with_reducible refine gate_callee (f := 14) rfl ?_); refine goesL_ (some 10) rfl rfl Tryd.func14 sqk rfl #[.pointer (some ⟨g375, 0, none⟩), .slice Ao10 y379.length co10] rfl sqm ?_; (with_reducible refine (spec_l1Str.calls g375 t372 t377 t378 _ _ y379 t382 t383 t384 w _ ?side1 ?side2 ?side3 ?side4 ?side5 A5.out).mono ?_); (case side1 => repeat (first | (with_reducible first | exact HI375.out | apply IsS48.alloc | apply IsS48.drewN | apply IsS48.drew | apply IsS48.set_1 | apply IsS48.set_2) | exact HI375.out)); (case side2 => exact z5_0); (case side3 => repeat (first | exact (Kd.R_reads' HO381.out).2.2 | (with_reducible refine Kd.C_alloc ?_ _) | (with_reducible refine Kd.C_drewN ?_ _) | (with_reducible refine Kd.C_drew ?_))); (case side4 => exact (Kd.R_reads' HO381.out).2.1); (case side5 => exact far_slice (IsS48.own_ne HI375.out HO381.out (by decide))); rintro e w11 ⟨rfl, hi, hb, hk⟩; refine ⟨_, rfl, ?_⟩; replace HO381 := Aside0.mk (Kd.R_mono (Kd.R_keep (IsS48.apart (show IsS48 w _ g375 t372 t377 t378 from by repeat (first | (with_reducible first | exact HI375.out | apply IsS48.alloc | apply IsS48.drewN | apply IsS48.drew | apply IsS48.set_1 | apply IsS48.set_2) | exact HI375.out)) (sqq HO381.out) (by decide)) hk (fun _ h => h.2)) (fun _ h => h.1)); replace HB := Aside0.mk (hb); replace HI375 := Aside0.mk (hi); (try clear hb); (try clear hk); (try clear hi)))
  go_ret
  exact ⟨sqe, by repeat (first | (with_reducible first | exact HB.out | apply below_alloc | apply pw_below_drewN | apply below_drew1 | refine below_set ?_ (IsS48.ge HI375.out)) | exact HB.out)⟩
 ·replace c4 := Bool.eq_false_iff.mpr c4
  subst c4
  replace H := iF H
  obtain ⟨⟨t385, t386, t387, t388, t391, t392⟩, A12, H⟩ := bA H
  dsimp only at H
  obtain ⟨t393, A13, H⟩ := bA H
  obtain rfl := Option.some.inj H
  go_enter Tryd.func5, Tryd.ntmps5
  go_wp2_with (first | ((with_reducible refine gate_callee (f := 12) rfl ?_); refine goesL_ (some 5) rfl rfl Tryd.func12 sqk rfl #[.slice A0 l0.length c0] rfl sqm ?_; (with_reducible refine (spec_l1New.calls k _ _ l0 t372 t373 t374 w _ ?side1 ?side2 ?side3 A2.out).mono ?_); (case side1 => exact sqh); (case side2 => exact HR0.out); (case side3 => exact HC0.out); rintro e w14 ⟨g375, rfl, hi, hb, hb2⟩; refine ⟨_, rfl, ?_⟩; replace HB := Aside0.mk (hb); have HI375 := Aside0.mk (hi); (try clear hb); (try clear hb2); (try clear hi)) | ((with_reducible refine gate_callee (f := 13) rfl ?_); refine goesL_ (some 7) rfl rfl Tryd.func13 sqk rfl #[.pointer (some ⟨g375, 0, none⟩), .int .i64 3] rfl sqm ?_; (with_reducible refine (spec_l1Once.calls g375 t372 t373 t374 3 false t377 t378 w _ ?side1 ?side2 A3.out).mono ?_); (case side1 => repeat (first | (with_reducible first | exact HI375.out | apply IsS48.alloc | apply IsS48.drewN | apply IsS48.drew | apply IsS48.set_1 | apply IsS48.set_2) | exact HI375.out)); (case side2 => exact z5_0); rintro e w15 ⟨rfl, hi, hb, hk⟩; refine ⟨_, rfl, ?_⟩; replace HB := Aside0.mk (hb); replace HI375 := Aside0.mk (hi); (try clear hb); (try clear hk); (try clear hi)) | ((with_reducible refine gate_callee (f := 16) rfl ?_); refine goesL_ (some 12) rfl rfl Tryd.func16 sqk rfl #[.pointer (some ⟨g375, 0, none⟩)] rfl sqm ?_; (with_reducible refine (spec_l15Any.calls k g375 t372 t377 t378 t385 t386 t387 t388 t391 t392 w _ ?side1 ?side2 A12.out).mono ?_); (case side1 => repeat (first | (with_reducible first | exact HI375.out | apply IsS48.alloc | apply IsS48.drewN | apply IsS48.drew | apply IsS48.set_1 | apply IsS48.set_2) | exact HI375.out)); (case side2 => exact z5_0); rintro e w16 ⟨v389, rfl, ho0, hi, hb, hk⟩; refine ⟨_, rfl, ?_⟩; have HO390 := Aside0.mk (Kd.N_lower (Kd.N_mono (ok' := fun k_ => k_ ≠ g375) ho0 (fun k_ hk_ => (IsS48.fresh z5_1 k_ hk_))) (below_size z5_0)); replace HB := Aside0.mk (hb); replace HI375 := Aside0.mk (hi); (try clear hb); (try clear hk); (try clear hi); (try clear ho0); obtain ⟨Ao17, co17, eo17⟩ := Kd.N_slice HO390.out; subst eo17) | ((with_reducible refine gate_callee (f := 15) rfl ?_); refine goesL_ (some 13) rfl rfl Tryd.func15 sqk rfl #[.agg #[.int .i64 t385, .int .i64 t386, .int .i64 t387, .slice Ao17 t388.length co17]] rfl sqm ?_; (with_reducible refine (spec_FormatCond.calls k t385 t386 t387 _ _ t388 t393 _ ?side1 ?side2 A13.out).mono ?_); (case side1 => repeat (first | exact (Kd.N_reads' HO390.out).2.2 | (with_reducible refine Kd.C_alloc ?_ _) | (with_reducible refine Kd.C_drewN ?_ _) | (with_reducible refine Kd.C_drew ?_))); (case side2 => exact (Kd.N_reads' HO390.out).2.1); rintro e w18 ⟨rfl, hb⟩; refine ⟨_, rfl, ?_⟩; replace HO390 := Aside0.mk (Kd.N_below (by (with_reducible repeat (first | apply Kd.N_alloc | apply Kd.N_drewN | apply Kd.N_drew)); exact HO390.out) hb); replace HB := Aside0.mk (below_step z5_0 hb); replace HI375 := Aside0.mk (IsS48.below z5_1 hb); (try clear hb)))
  go_ret
  exact ⟨sqe, by repeat (first | (with_reducible first | exact HB.out | apply below_alloc | apply pw_below_drewN | apply below_drew1 | refine below_set ?_ (IsS48.ge HI375.out)) | exact HB.out)⟩

/-! ### impl_SizeOf: function 20 -/
mutual
def impl_SizeOf.l0 : Nat → Int → List (S27) → Int → Int → Option (Int)
 | 0, _, _, _, _ => none
 | k + 1, x3, x7, x8, x9 => if x9 < x8 then (if 0 ≤ x9 then (if x9 < (x7.length : Int) then ((impl_SizeOf.f k ((rd_T27 x7 x9).f0) ((rd_T27 x7 x9).f1) ((rd_T27 x7 x9).f2) ((rd_T27 x7 x9).f3)).bind fun t397 => (impl_SizeOf.l0 k (wrap64 (x3 + t397)) x7 x8 (wrap64 (x9 + 1)))) else (none)) else (none)) else (some x3)
def impl_SizeOf.f : Nat → Int → Int → Int → List (S27) → Option (Int)
 | 0, _, _, _, _ => none
 | k + 1, a0_0, a0_1, a0_2, l0_3 => impl_SizeOf.l0 k 1 l0_3 (l0_3.length : Int) 0
end
set_option maxHeartbeats 8000000 in
set_option maxRecDepth 100000 in
theorem impl_SizeOf.calls (k : Nat) : ∀ (a0_0 : Int) (a0_1 : Int) (a0_2 : Int) (A0_3 : Option Addr) (c0_3 : Nat) (l0_3 : List (S27)) (r : Int) (w : World) (hr0_3 : Kd.C k27 w A0_3 l0_3.length l0_3) (hc0_3 : l0_3.length ≤ c0_3) (h : impl_SizeOf.f k a0_0 a0_1 a0_2 l0_3 = some r),
  Calls Tryd.prog 20 #[.agg #[.int .i64 a0_0, .int .i64 a0_1, .int .i64 a0_2, .slice A0_3 l0_3.length c0_3]] w fun e w' => e = .returned (.int .i64 r) ∧ Below w.heap.size w w' := by
 induction k using Nat.strongRecOn with
 | _ k ih =>
 intro a0_0 a0_1 a0_2 A0_3 c0_3 l0_3 r w hr0_3 hc0_3 h
 cases k with
 | zero => exact absurd h (by simp [impl_SizeOf.f])
 | succ k =>
 simp only [impl_SizeOf.f] at h
 have hu27 := Tryd.underlying27
 have HR0_3 := Aside0.mk hr0_3
 have HC0_3 := Aside0.mk hc0_3
 clear hr0_3 hc0_3
 have HB := Aside0.mk (Below.refl w.heap.size w)
 have H : (impl_SizeOf.l0 k 1 l0_3 (l0_3.length : Int) 0) = some r := h
 clear h
 have H' := Aside0.mk H
 clear H
 go_enter Tryd.func20, Tryd.ntmps20
 go_wp2_with (first | ((with_reducible refine gate_dst (N := 1) rfl ?_); refine bx (N := 1) (cs := #[.int .i64 a0_0, .int .i64 a0_1, .int .i64 a0_2, .slice A0_3 l0_3.length c0_3]) (t := 27) ?_; intro gb394 hg w2 hbox hb; have BK394 := Aside0.mk (hbox); have GW394 := Aside0.mk ((by rw [hg]; exact (below_size sqh) : w.heap.size ≤ gb394)); have GE394 := Aside0.mk ((by rw [hg]; exact (below_size sqh) : w.heap.size ≤ gb394)); replace HB := Aside0.mk (below_step sqh hb); clear hb hbox hg; obtain ⟨hcz3_0, hcz3_1, hcz3_2, hcz3_3, hfz3_0, hfz3_1, hfz3_2, hfz3_3⟩ := sd4 BK394.out))
 go_loopg [3, 9] k (fun kq v3 v9 w' => ∃ (x3_1 : Int) (x9_1 : Int), v3 = .int .i64 x3_1 ∧ v9 = .int .i64 x9_1 ∧ Aside0 (impl_SizeOf.l0 kq x3_1 l0_3 (l0_3.length : Int) x9_1 = some r) ∧ Aside0 (kq ≤ k) ∧ Aside0 (w'.heap[gb394]? = some (.cells #[.int .i64 a0_0, .int .i64 a0_1, .int .i64 a0_2, (.slice A0_3 l0_3.length c0_3)] 27 (0, 0))) ∧ Aside0 (Below w.heap.size w w'))
 case atStart => exact ⟨(1), (0), sqr, sqr, H', ⟨Nat.le_refl _⟩, ⟨sqb BK394.out⟩, ⟨sqh⟩⟩
 case round =>
  clear H'; try clear c2; try clear p2; try clear hcz3_0; try clear hcz3_1; try clear hcz3_2; try clear hcz3_3; try clear hfz3_0; try clear hfz3_1; try clear hfz3_2; try clear hfz3_3
  obtain ⟨x3_1, x9_1, rfl, rfl, HA, HK1, BK394, HB⟩ := hrel
  cases gk with
  | zero => exact absurd HA.out (by simp [impl_SizeOf.l0])
  | succ k1 =>
   have H := HA.out
   clear HA
   simp only [impl_SizeOf.l0] at H
   by_cases c4 : x9_1 < (l0_3.length : Int)
   ·rw [if_pos c4] at H
    have c4b0 : decide (x9_1 < (l0_3.length : Int)) = true := decide_eq_true c4
    clear c4
    by_cases c5 : 0 ≤ x9_1
    ·rw [if_pos c5] at H
     have c5b0 : decide (0 ≤ x9_1) = true := decide_eq_true c5
     clear c5
     by_cases c6 : x9_1 < (l0_3.length : Int)
     ·rw [if_pos c6] at H
      have c6b0 : decide (x9_1 < (l0_3.length : Int)) = true := decide_eq_true c6
      clear c6
      obtain ⟨t397, A7, H⟩ := bA H
      have H' := Aside0.mk H
      clear H
      have p395 : 0 ≤ (x9_1 : Int) := of_decide_eq_true sqs
      have q395 : x9_1 < (l0_3.length : Int) := of_decide_eq_true sqs
      obtain ⟨ad395, A395_3, c395_3, e395, hx395_0, hx395_1, hx395_2, hx395_3, hl395_3, hi395_3⟩ := at_T27 HR0_3.out x9_1 p395 q395
      cases e395
      replace hx395_0 := cl HB hx395_0; replace hx395_1 := cl HB hx395_1; replace hx395_2 := cl HB hx395_2; replace hx395_3 := cl HB hx395_3
      have HR395_3 := Aside0.mk hi395_3
      have HC395_3 := Aside0.mk hl395_3
      clear hi395_3 hl395_3
      replace p395 := eq_true p395
      replace q395 := eq_true q395
      go_wp2_with (first | ((with_reducible refine gate_dst (N := 5) rfl ?_); refine bx (N := 5) (cs := #[.int .i64 0, .int .i64 0, .int .i64 0, .slice none 0 0]) (t := 27) ?_; intro gb396 hg w8 hbox hb; have BK396 := Aside0.mk (hbox); have GW396 := Aside0.mk ((by rw [hg]; exact (below_size sqh) : w.heap.size ≤ gb396)); have GE396 := Aside0.mk ((by rw [hg]; exact (below_size sqh) : w.heap.size ≤ gb396)); replace HB := Aside0.mk (below_step sqh hb); have NB394_396 := Aside0.mk ((by rw [hg]; exact Nat.ne_of_lt (blk_lt (bo BK394)) : gb394 ≠ gb396)); have NB396_394 := Aside0.mk ((by rw [hg]; exact Nat.ne_of_gt (blk_lt (bo BK394)) : gb396 ≠ gb394)); replace BK394 := Aside0.mk (blk_below (bo BK394) hb); clear hb hbox hg; have hnb9 := NB396_394.out; have hnc9 := NB394_396.out; obtain ⟨hcz10_0, hcz10_1, hcz10_2, hcz10_3, hfz10_0, hfz10_1, hfz10_2, hfz10_3⟩ := sd4 BK396.out) | ((with_reducible refine gate_callee (f := 20) rfl ?_); refine goesL_ (some 15) rfl rfl Tryd.func20 sqk rfl #[.agg #[.int .i64 ((rd_T27 l0_3 x9_1).f0), .int .i64 ((rd_T27 l0_3 x9_1).f1), .int .i64 ((rd_T27 l0_3 x9_1).f2), .slice A395_3 ((rd_T27 l0_3 x9_1).f3).length c395_3]] rfl sqm ?_; (with_reducible refine (ih k1 (by have := HK1.out; omega) ((rd_T27 l0_3 x9_1).f0) ((rd_T27 l0_3 x9_1).f1) ((rd_T27 l0_3 x9_1).f2) _ _ ((rd_T27 l0_3 x9_1).f3) t397 _ ?side1 ?side2 A7.out).mono ?_); (case side1 => exact Kd.C_below HR395_3.out sqh); (case side2 => exact HC395_3.out); rintro e w11 ⟨rfl, hb⟩; refine ⟨_, rfl, ?_⟩; replace BK394 := Aside0.mk (blk_below (g := gb394) (o := .cells #[.int .i64 a0_0, .int .i64 a0_1, .int .i64 a0_2, .slice (some ad395) l0_3.length c0_3] 27 (0, 0)) (bp BK394) hb); replace BK396 := Aside0.mk (blk_below (g := gb396) (o := .cells #[.int .i64 ((rd_T27 l0_3 x9_1).f0), .int .i64 ((rd_T27 l0_3 x9_1).f1), .int .i64 ((rd_T27 l0_3 x9_1).f2), .slice A395_3 ((rd_T27 l0_3 x9_1).f3).length c395_3] 27 (0, 0)) (bp BK396) hb); replace HB := Aside0.mk (below_step sqh hb); (try clear hb)))
      go_roundg k1
      case measure => have := HK1.out; omega
      case rel => exact ⟨(wrap64 (x3_1 + t397)), (wrap64 (x9_1 + 1)), sqr, sqr, H', ⟨by have := HK1.out; omega⟩, ⟨sqb BK394.out⟩, ⟨sqh⟩⟩
     ·rw [if_neg c6] at H
      exact absurd H (by simp)
    ·rw [if_neg c5] at H
     exact absurd H (by simp)
   ·rw [if_neg c4] at H
    have c4b0 : decide (x9_1 < (l0_3.length : Int)) = false := decide_eq_false c4
    clear c4
    obtain rfl := Option.some.inj H
    go_wp2
    go_ret
    exact ⟨sqe, sqh⟩

/-! ### impl_InRange: function 36 -/
def impl_InRange.f (a0 : Int) (a1 : Int) (a2 : Int) : Option (Bool) := if a1 ≤ a0 then (some (decide (a0 ≤ a2))) else (some false)
set_option maxHeartbeats 8000000 in
set_option maxRecDepth 100000 in
theorem impl_InRange.calls (a0 : Int) (a1 : Int) (a2 : Int) (r : Bool) (w : World) (h : impl_InRange.f a0 a1 a2 = some r) :
  Calls Tryd.prog 36 #[.int .i64 a0, .int .i64 a1, .int .i64 a2] w fun e w' => e = .returned (.bool r) ∧ Drawn0 w w' := by
 have H : (if a1 ≤ a0 then (some (decide (a0 ≤ a2))) else (some false)) = some r := h
 clear h
 by_cases c4 : a1 ≤ a0
 ·rw [if_pos c4] at H
  have c4b0 : decide (a1 ≤ a0) = true := decide_eq_true c4
  clear c4
  obtain rfl := Option.some.inj H
  go_enter Tryd.func36, Tryd.ntmps36
  go_wp2
  go_ret
  exact ⟨sqr, by repeat (first | exact Drawn0.refl _ | apply Drawn0.step)⟩
 ·rw [if_neg c4] at H
  have c4b0 : decide (a1 ≤ a0) = false := decide_eq_false c4
  clear c4
  obtain rfl := Option.some.inj H
  go_enter Tryd.func36, Tryd.ntmps36
  go_wp2
  go_ret
  exact ⟨sqr, by repeat (first | exact Drawn0.refl _ | apply Drawn0.step)⟩

/-! ### impl_ArityOf: function 54 -/
def impl_ArityOf.j0 : Nat → Int → Bool → Option (Int)
 | 0, _, _ => none
 | k + 1, x0, x6 => if x6 = true then (some 2) else ((impl_InRange.f x0 1 6).bind fun t398 => (if t398 = true then (some 0) else (some (-1))))
def impl_ArityOf.f (k : Nat) (a0 : Int) : Option (Int) := if a0 = 7 then (some 1) else (if a0 = 8 then (impl_ArityOf.j0 k a0 true) else (impl_ArityOf.j0 k a0 (a0 == 9)))
set_option maxHeartbeats 8000000 in
set_option maxRecDepth 100000 in
theorem impl_ArityOf.calls (k : Nat) (a0 : Int) (r : Int) (w : World) (h : impl_ArityOf.f k a0 = some r) :
  Calls Tryd.prog 54 #[.int .i64 a0] w fun e w' => e = .returned (.int .i64 r) ∧ Drawn0 w w' := by
 have H : (if a0 = 7 then (some 1) else (if a0 = 8 then (impl_ArityOf.j0 k a0 true) else (impl_ArityOf.j0 k a0 (a0 == 9)))) = some r := h
 clear h
 by_cases c2 : a0 = 7
 ·rw [if_pos c2] at H
  have c2b0 : (a0 == 7) = true := beq_iff_eq.mpr c2
  have c2b1 : (a0 != 7) = false := bne_eq_false_iff_eq.mpr c2
  clear c2
  obtain rfl := Option.some.inj H
  go_enter Tryd.func54, Tryd.ntmps54
  go_wp2
  go_ret
  exact ⟨sqr, by repeat (first | exact Drawn0.refl _ | apply Drawn0.step)⟩
 ·rw [if_neg c2] at H
  have c2b0 : (a0 == 7) = false := beq_eq_false_iff_ne.mpr c2
  have c2b1 : (a0 != 7) = true := bne_iff_ne.mpr c2
  have HC3 := Aside0.mk H
  clear H
  go_enter Tryd.func54, Tryd.ntmps54
  go_upto_region 3 with (fail)
  go_cut [6] (fun v6 wc => ∃ (kq : Nat) (x6_2 : Bool), v6 = .bool x6_2 ∧ Aside0 (impl_ArityOf.j0 kq a0 x6_2 = some r) ∧ Aside0 (kq ≤ k) ∧ Drawn0 w wc)
  case first =>
   have H := HC3.out
   clear HC3
   by_cases c4 : a0 = 8
   ·rw [if_pos c4] at H
    have c4b0 : (a0 == 8) = true := beq_iff_eq.mpr c4
    have c4b1 : (a0 != 8) = false := bne_eq_false_iff_eq.mpr c4
    clear c4
    (first | rw [c4b0] | (simp only [i64_w, i32_w]; rw [c4b0]) | skip)
    have H' := Aside0.mk H
    clear H
    go_wp2
    go_meet
    case rel => exact ⟨_, (true), sqr, H', ⟨sqo⟩, by repeat (first | exact Drawn0.refl _ | apply Drawn0.step)⟩
   ·rw [if_neg c4] at H
    have c4b0 : (a0 == 8) = false := beq_eq_false_iff_ne.mpr c4
    have c4b1 : (a0 != 8) = true := bne_iff_ne.mpr c4
    (first | rw [c4b0] | (simp only [i64_w, i32_w]; rw [c4b0]) | skip)
    have H' := Aside0.mk H
    clear H
    go_wp2
    go_meet
    case rel => exact ⟨_, ((a0 == 9)), sqr, H', ⟨sqo⟩, by repeat (first | exact Drawn0.refl _ | apply Drawn0.step)⟩
  case rest =>
   clear HC3; try clear c2; try clear c2b0; try clear c2b1; try clear p2; try clear c4; try clear c4b0; try clear c4b1
   obtain ⟨kq, x6_2, rfl, HA, HJ2, ⟨mc2, rfl⟩⟩ := hcut
   cases kq with
   | zero => exact absurd HA.out (by simp [impl_ArityOf.j0])
   | succ kj2 =>
    have H := HA.out
    clear HA
    simp only [impl_ArityOf.j0] at H
    by_cases c5 : x6_2 = true
    ·subst c5
     replace H := iT H
     obtain rfl := Option.some.inj H
     go_wp2
     go_ret
     exact ⟨sqr, by repeat (first | exact Drawn0.refl _ | apply Drawn0.step)⟩
    ·replace c5 := Bool.eq_false_iff.mpr c5
     subst c5
     replace H := iF H
     obtain ⟨t398, A6, H⟩ := bA H
     by_cases c7 : t398 = true
     ·subst c7
      replace H := iT H
      obtain rfl := Option.some.inj H
      go_wp2_with (first | ((with_reducible refine gate_callee (f := 36) rfl ?_); refine goesL_ (some 15) rfl rfl Tryd.func36 sqk rfl #[.int .i64 a0, .int .i64 1, .int .i64 6] rfl sqm ?_; (with_reducible refine (impl_InRange.calls a0 1 6 true _ A6.out).mono ?_); rintro e w' ⟨rfl, ⟨nd, rfl⟩⟩; refine ⟨_, rfl, ?_⟩))
      go_ret
      exact ⟨sqr, by repeat (first | exact Drawn0.refl _ | apply Drawn0.step)⟩
     ·replace c7 := Bool.eq_false_iff.mpr c7
      subst c7
      replace H := iF H
      obtain rfl := Option.some.inj H
      go_wp2_with (first | ((with_reducible refine gate_callee (f := 36) rfl ?_); refine goesL_ (some 15) rfl rfl Tryd.func36 sqk rfl #[.int .i64 a0, .int .i64 1, .int .i64 6] rfl sqm ?_; (with_reducible refine (impl_InRange.calls a0 1 6 false _ A6.out).mono ?_); rintro e w' ⟨rfl, ⟨nd, rfl⟩⟩; refine ⟨_, rfl, ?_⟩))
      go_ret
      exact ⟨sqr, by repeat (first | exact Drawn0.refl _ | apply Drawn0.step)⟩

end Go.Proofs.YtilcmgdjfhhcdaaDoor.XFnTexts
