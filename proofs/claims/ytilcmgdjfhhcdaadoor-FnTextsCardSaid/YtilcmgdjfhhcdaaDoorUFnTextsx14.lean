/- Written by this session's own program (wip/xprint, which runs over the kit's print): what the functions that the law reaches come to, each proved; and the law's row. Conditions: none. -/
import Derived.Test.YtilcmgdjfhhcdaaDoorUFnTextsSq
import Derived.Test.YtilcmgdjfhhcdaaDoorUFnTextsx0
import Derived.Test.YtilcmgdjfhhcdaaDoorUFnTextsx1
import Derived.Test.YtilcmgdjfhhcdaaDoorUFnTextsx2
import Derived.Test.YtilcmgdjfhhcdaaDoorUFnTextsx6
import Derived.Test.YtilcmgdjfhhcdaaDoorUFnTextsx7
import Derived.Test.YtilcmgdjfhhcdaaDoorUFnTextsx9
import Derived.Test.YtilcmgdjfhhcdaaDoorUFnTextsx13
namespace Go.Proofs.YtilcmgdjfhhcdaaDoor.XFnTexts
open Go.RowKit Go.Proofs.YtilcmgdjfhhcdaaDoorW.PrintWords Go.Proofs.YtilcmgdjfhhcdaaDoorW.PrintLast Go.Proofs.YtilcmgdjfhhcdaaDoorW.PrintMore Go.Proofs.YtilcmgdjfhhcdaaDoorSq
attribute [local go_sem] max2_int min2_int max_two min_two max_three min_three max_four min_four   -- for this text's walks alone
set_option linter.unusedVariables false
set_option linter.unusedSimpArgs false

/-! ### laws_FnTexts: function 3 -/
def laws_FnTexts.j0 : Nat → ByteArray → Bool → Bool → Int → Int → Int → List (S27) → Int → Int → Int → List (S27) → Option (Bool)
 | 0, _, _, _, _, _, _, _, _, _, _, _ => none
 | k + 1, x7, x9, x46, x599000, x599001, x599002, x599003, x608000, x608001, x608002, x608003 => if x46 = true then (some false) else (if x7.toList = ([] : List UInt8) then (if x9 = true then (some false) else ((spec_IsCond.f k x599000 x599001 x599002 x599003).bind fun t612 => (some (!t612)))) else (if (x7.size : Int) > 400 then (some true) else (if x9 = true then ((impl_EqualConds.f k x608000 x608001 x608002 x608003 x599000 x599001 x599002 x599003).bind fun t613 => (some t613)) else (some false))))
def laws_FnTexts.f (k : Nat) (l0 : List Int) : Option (Bool) := (laws_big.f l0).bind fun t582 => (if t582 = true then (some true) else ((spec_DrawParseCond.f k l0).bind fun t583 => ((impl_ParseCond.f k t583).bind fun bt584 => ((spec_DrawFormatCond.f k l0).bind fun bt592 => ((impl_FormatCond.f k bt592.1 bt592.2.1 bt592.2.2.1 bt592.2.2.2).bind fun t599 => ((impl_ParseCond.f k t599).bind fun bt600 => (if bt584.2.2.2.2 = true then ((impl_FormatCond.f k bt584.1 bt584.2.1 bt584.2.2.1 bt584.2.2.2.1).bind fun t608 => (if t608.toList = t583.toList then ((impl_IsCond.f k bt584.1 bt584.2.1 bt584.2.2.1 bt584.2.2.2.1).bind fun t609 => (if t609 = true then ((impl_IsCond.f k bt592.1 bt592.2.1 bt592.2.2.1 bt592.2.2.2).bind fun t610 => (laws_FnTexts.j0 k t599 bt600.2.2.2.2 ((t599.toList != ([] : List UInt8)) != t610) bt592.1 bt592.2.1 bt592.2.2.1 bt592.2.2.2 bt600.1 bt600.2.1 bt600.2.2.1 bt600.2.2.2.1)) else (laws_FnTexts.j0 k t599 bt600.2.2.2.2 true bt592.1 bt592.2.1 bt592.2.2.1 bt592.2.2.2 bt600.1 bt600.2.1 bt600.2.2.1 bt600.2.2.2.1))) else (laws_FnTexts.j0 k t599 bt600.2.2.2.2 true bt592.1 bt592.2.1 bt592.2.2.1 bt592.2.2.2 bt600.1 bt600.2.1 bt600.2.2.1 bt600.2.2.2.1))) else ((impl_IsCond.f k bt592.1 bt592.2.1 bt592.2.2.1 bt592.2.2.2).bind fun t611 => (laws_FnTexts.j0 k t599 bt600.2.2.2.2 ((t599.toList != ([] : List UInt8)) != t611) bt592.1 bt592.2.1 bt592.2.2.1 bt592.2.2.2 bt600.1 bt600.2.1 bt600.2.2.1 bt600.2.2.2.1)))))))))
theorem z3_0 {Q : Prop} (g : Q := by (with_reducible repeat (first | apply Kd.N_alloc | apply Kd.N_drewN | apply Kd.N_drew)); exact (Kd.N_mono (Kd.N_far (p := ⟨gb607, 3, none⟩) (Kd.N_far (p := ⟨gb607, 2, none⟩) (Kd.N_far (p := ⟨gb607, 1, none⟩) (Kd.N_far (p := ⟨gb607, 0, none⟩) (Kd.N_mono HO589.out (fun k_ hk => (⟨hk, hk.2⟩ : _ ∧ k_ ≠ gb607))) (fun _ hk => hk.2) (.int .i64 t600)) (fun _ hk => hk.2) (.int .i64 t601)) (fun _ hk => hk.2) (.int .i64 t602)) (fun _ hk => hk.2) (.slice Ao26 t603.length co26)) (fun _ h_ => h_.1))) : Q := g
theorem z3_1 {Q : Prop} (g : Q := by (with_reducible repeat (first | apply Kd.N_alloc | apply Kd.N_drewN | apply Kd.N_drew)); exact (Kd.N_mono (Kd.N_far (p := ⟨gb607, 3, none⟩) (Kd.N_far (p := ⟨gb607, 2, none⟩) (Kd.N_far (p := ⟨gb607, 1, none⟩) (Kd.N_far (p := ⟨gb607, 0, none⟩) (Kd.N_mono HO597.out (fun k_ hk => (⟨hk, hk.2⟩ : _ ∧ k_ ≠ gb607))) (fun _ hk => hk.2) (.int .i64 t600)) (fun _ hk => hk.2) (.int .i64 t601)) (fun _ hk => hk.2) (.int .i64 t602)) (fun _ hk => hk.2) (.slice Ao26 t603.length co26)) (fun _ h_ => h_.1))) : Q := g
theorem z3_2 {Q : Prop} (g : Q := by (with_reducible repeat (first | apply Kd.N_alloc | apply Kd.N_drewN | apply Kd.N_drew)); exact (Kd.N_mono (Kd.N_far (p := ⟨gb607, 3, none⟩) (Kd.N_far (p := ⟨gb607, 2, none⟩) (Kd.N_far (p := ⟨gb607, 1, none⟩) (Kd.N_far (p := ⟨gb607, 0, none⟩) (Kd.N_mono HO605.out (fun k_ hk => (⟨hk, hk.2⟩ : _ ∧ k_ ≠ gb607))) (fun _ hk => hk.2) (.int .i64 t600)) (fun _ hk => hk.2) (.int .i64 t601)) (fun _ hk => hk.2) (.int .i64 t602)) (fun _ hk => hk.2) (.slice Ao26 t603.length co26)) (fun _ h_ => h_.1))) : Q := g
theorem z3_3 {Q : Prop} (g : Q := by (with_reducible repeat (first | apply Kd.N_alloc | apply Kd.N_drewN | apply Kd.N_drew)); exact HO589.out) : Q := g
theorem z3_4 {Q : Prop} (g : Q := by (with_reducible repeat (first | apply Kd.N_alloc | apply Kd.N_drewN | apply Kd.N_drew)); exact HO597.out) : Q := g
theorem z3_5 {Q : Prop} (g : Q := by (with_reducible repeat (first | apply Kd.N_alloc | apply Kd.N_drewN | apply Kd.N_drew)); exact (Kd.N_mono (Kd.N_far (p := ⟨gb598, 3, none⟩) (Kd.N_far (p := ⟨gb598, 2, none⟩) (Kd.N_far (p := ⟨gb598, 1, none⟩) (Kd.N_far (p := ⟨gb598, 0, none⟩) (Kd.N_mono HO597.out (fun k_ hk => (⟨hk, hk.2⟩ : _ ∧ k_ ≠ gb598))) (fun _ hk => hk.2) (.int .i64 t592)) (fun _ hk => hk.2) (.int .i64 t593)) (fun _ hk => hk.2) (.int .i64 t594)) (fun _ hk => hk.2) (.slice Ao19 t595.length co19)) (fun _ h_ => h_.1))) : Q := g
theorem z3_6 {Q : Prop} (g : Q := by (with_reducible repeat (first | apply Kd.N_alloc | apply Kd.N_drewN | apply Kd.N_drew)); exact (Kd.N_mono (Kd.N_far (p := ⟨gb591, 3, none⟩) (Kd.N_far (p := ⟨gb591, 2, none⟩) (Kd.N_far (p := ⟨gb591, 1, none⟩) (Kd.N_far (p := ⟨gb591, 0, none⟩) (Kd.N_mono HO589.out (fun k_ hk => (⟨hk, hk.2⟩ : _ ∧ k_ ≠ gb591))) (fun _ hk => hk.2) (.int .i64 t584)) (fun _ hk => hk.2) (.int .i64 t585)) (fun _ hk => hk.2) (.int .i64 t586)) (fun _ hk => hk.2) (.slice Ao14 t587.length co14)) (fun _ h_ => h_.1))) : Q := g
theorem z3_7 {Q : Prop} (g : Q := by (with_reducible repeat (first | apply Kd.N_alloc | apply Kd.N_drewN | apply Kd.N_drew)); exact HO605.out) : Q := g
set_option maxHeartbeats 8000000 in
set_option maxRecDepth 100000 in
theorem laws_FnTexts.calls (k : Nat) (A0 : Option Addr) (c0 : Nat) (l0 : List Int) (r : Bool) (w : World) (hr0 : Kd.C (Kd.int .u8) w A0 l0.length l0) (hc0 : l0.length ≤ c0) (h : laws_FnTexts.f k l0 = some r) (hr_ : Aside0 (r = true)) (hT : Tabs w) :
  Calls Tryd.prog 3 #[.slice A0 l0.length c0] w fun e w' => e = .returned (.bool r) ∧ Below w.heap.size w w' := by
 have hu27 := Tryd.underlying27
 have HR0 := Aside0.mk hr0
 have HC0 := Aside0.mk hc0
 clear hr0 hc0
 have HB := Aside0.mk (Below.refl w.heap.size w)
 have HTab := Aside0.mk hT
 clear hT
 have H : ((laws_big.f l0).bind fun t582 => (if t582 = true then (some true) else ((spec_DrawParseCond.f k l0).bind fun t583 => ((impl_ParseCond.f k t583).bind fun bt584 => ((spec_DrawFormatCond.f k l0).bind fun bt592 => ((impl_FormatCond.f k bt592.1 bt592.2.1 bt592.2.2.1 bt592.2.2.2).bind fun t599 => ((impl_ParseCond.f k t599).bind fun bt600 => (if bt584.2.2.2.2 = true then ((impl_FormatCond.f k bt584.1 bt584.2.1 bt584.2.2.1 bt584.2.2.2.1).bind fun t608 => (if t608.toList = t583.toList then ((impl_IsCond.f k bt584.1 bt584.2.1 bt584.2.2.1 bt584.2.2.2.1).bind fun t609 => (if t609 = true then ((impl_IsCond.f k bt592.1 bt592.2.1 bt592.2.2.1 bt592.2.2.2).bind fun t610 => (laws_FnTexts.j0 k t599 bt600.2.2.2.2 ((t599.toList != ([] : List UInt8)) != t610) bt592.1 bt592.2.1 bt592.2.2.1 bt592.2.2.2 bt600.1 bt600.2.1 bt600.2.2.1 bt600.2.2.2.1)) else (laws_FnTexts.j0 k t599 bt600.2.2.2.2 true bt592.1 bt592.2.1 bt592.2.2.1 bt592.2.2.2 bt600.1 bt600.2.1 bt600.2.2.1 bt600.2.2.2.1))) else (laws_FnTexts.j0 k t599 bt600.2.2.2.2 true bt592.1 bt592.2.1 bt592.2.2.1 bt592.2.2.2 bt600.1 bt600.2.1 bt600.2.2.1 bt600.2.2.2.1))) else ((impl_IsCond.f k bt592.1 bt592.2.1 bt592.2.2.1 bt592.2.2.2).bind fun t611 => (laws_FnTexts.j0 k t599 bt600.2.2.2.2 ((t599.toList != ([] : List UInt8)) != t611) bt592.1 bt592.2.1 bt592.2.2.1 bt592.2.2.2 bt600.1 bt600.2.1 bt600.2.2.1 bt600.2.2.2.1)))))))))) = some r := h
 clear h
 obtain ⟨t582, A2, H⟩ := bA H
 by_cases c3 : t582 = true
 ·subst c3
  replace H := iT H
  obtain rfl := Option.some.inj H
  go_enter Tryd.func3, Tryd.ntmps3
  go_wp2_with (first | ((with_reducible refine gate_callee (f := 4) rfl ?_); refine goesL_ (some 11) rfl rfl Tryd.func4 sqk rfl #[.slice A0 l0.length c0] rfl sqm ?_; (with_reducible refine (laws_big.calls _ _ l0 true _ ?side1 ?side2 A2.out).mono ?_); (case side1 => repeat (first | exact HR0.out | (with_reducible refine Kd.C_alloc ?_ _) | (with_reducible refine Kd.C_drewN ?_ _) | (with_reducible refine Kd.C_drew ?_))); (case side2 => exact HC0.out); rintro e w' ⟨rfl, ⟨nd, rfl⟩⟩; refine ⟨_, rfl, ?_⟩))
  go_ret
  exact ⟨sqe, sqh⟩
 ·replace c3 := Bool.eq_false_iff.mpr c3
  subst c3
  replace H := iF H
  obtain ⟨t583, A4, H⟩ := bA H
  obtain ⟨⟨t584, t585, t586, t587, t590⟩, A5, H⟩ := bA H
  dsimp only at H
  obtain ⟨⟨t592, t593, t594, t595⟩, A6, H⟩ := bA H
  dsimp only at H
  obtain ⟨t599, A7, H⟩ := bA H
  obtain ⟨⟨t600, t601, t602, t603, t606⟩, A8, H⟩ := bA H
  dsimp only at H
  have HC9 := Aside0.mk H
  clear H
  go_enter Tryd.func3, Tryd.ntmps3
  go_upto_region 8 with (first | ((with_reducible refine gate_callee (f := 4) rfl ?_); refine goesL_ (some 11) rfl rfl Tryd.func4 sqk rfl #[.slice A0 l0.length c0] rfl sqm ?_; (with_reducible refine (laws_big.calls _ _ l0 false _ ?side1 ?side2 A2.out).mono ?_); (case side1 => repeat (first | exact HR0.out | (with_reducible refine Kd.C_alloc ?_ _) | (with_reducible refine Kd.C_drewN ?_ _) | (with_reducible refine Kd.C_drew ?_))); (case side2 => exact HC0.out); rintro e w' ⟨rfl, ⟨nd, rfl⟩⟩; refine ⟨_, rfl, ?_⟩) | ((with_reducible refine gate_callee (f := 5) rfl ?_); refine goesL_ (some 13) rfl rfl Tryd.func5 sqk rfl #[.slice A0 l0.length c0] rfl sqm ?_; (with_reducible refine (spec_DrawParseCond.calls k _ _ l0 t583 _ ?side1 ?side2 A4.out).mono ?_); (case side1 => repeat (first | exact HR0.out | (with_reducible refine Kd.C_alloc ?_ _) | (with_reducible refine Kd.C_drewN ?_ _) | (with_reducible refine Kd.C_drew ?_))); (case side2 => exact HC0.out); rintro e w10 ⟨rfl, hb⟩; refine ⟨_, rfl, ?_⟩; replace HB := Aside0.mk (below_step sqh hb); (try clear hb)) | ((with_reducible refine gate_callee (f := 6) rfl ?_); refine goesL_ (some 16) rfl rfl Tryd.func6 sqk rfl #[.string t583] rfl sqm ?_; (with_reducible refine (impl_ParseCond.calls k t583 t584 t585 t586 t587 t590 _ A5.out (HTab.out.below sqh)).mono ?_); rintro e w11 ⟨v588, rfl, ho0, hb⟩; refine ⟨_, rfl, ?_⟩; have HO589 := Aside0.mk (Kd.N_lower (Kd.N_mono (ok' := fun k_ => True) ho0 (fun k_ hk_ => trivial)) (below_size sqh)); replace HB := Aside0.mk (below_step sqh hb); (try clear hb); (try clear ho0)) | ((with_reducible refine gate_dst (N := 4) rfl ?_); refine bx (N := 4) (cs := #[.int .i64 0, .int .i64 0, .int .i64 0, .slice none 0 0]) (t := 27) ?_; intro gb591 hg w12 hbox hb; replace HO589 := Aside0.mk (Kd.N_below (Kd.N_elderB z3_3 gb591 (Nat.le_of_eq hg.symm)) hb); have BK591 := Aside0.mk (hbox); have GW591 := Aside0.mk ((by rw [hg]; exact (below_size sqh) : w.heap.size ≤ gb591)); have GE591 := Aside0.mk ((by rw [hg]; exact (below_size sqh) : w.heap.size ≤ gb591)); replace HB := Aside0.mk (below_step sqh hb); clear hb hbox hg; obtain ⟨hcz13_0, hcz13_1, hcz13_2, hcz13_3, hfz13_0, hfz13_1, hfz13_2, hfz13_3⟩ := sd4 BK591.out; obtain ⟨Ao14, co14, eo14⟩ := Kd.N_slice HO589.out; subst eo14) | ((with_reducible refine gate_callee (f := 7) rfl ?_); refine goesL_ (some 20) rfl rfl Tryd.func7 sqk rfl #[.slice A0 l0.length c0] rfl sqm ?_; (with_reducible refine (spec_DrawFormatCond.calls k _ _ l0 t592 t593 t594 t595 _ ?side1 ?side2 A6.out).mono ?_); (case side1 => exact Kd.C_below HR0.out sqh); (case side2 => exact HC0.out); rintro e w15 ⟨v596, rfl, ho0, hb⟩; refine ⟨_, rfl, ?_⟩; have HO597 := Aside0.mk (Kd.N_lower (Kd.N_mono (ok' := fun k_ => some k_ ≠ (.slice Ao14 t587.length co14 : Value).ownBlock ∧ k_ ≠ gb591) ho0 (fun k_ hk_ => ⟨(Kd.fresh' (Kd.N_lt z3_6) k_ hk_), (Kd.freshB (g := gb591) (o := .cells #[.int .i64 t584, .int .i64 t585, .int .i64 t586, .slice Ao14 t587.length co14] 27 (0, 0)) (bp BK591) k_ hk_)⟩)) (below_size sqh)); replace HO589 := Aside0.mk (Kd.N_elder' z3_6 (Kd.N_base ho0) hb); replace BK591 := Aside0.mk (blk_below (g := gb591) (o := .cells #[.int .i64 t584, .int .i64 t585, .int .i64 t586, .slice Ao14 t587.length co14] 27 (0, 0)) (bp BK591) hb); replace HB := Aside0.mk (below_step sqh hb); (try clear hb); (try clear ho0)) | ((with_reducible refine gate_dst (N := 6) rfl ?_); refine bx (N := 6) (cs := #[.int .i64 0, .int .i64 0, .int .i64 0, .slice none 0 0]) (t := 27) ?_; intro gb598 hg w16 hbox hb; replace HO589 := Aside0.mk (Kd.N_below (Kd.N_elderB z3_3 gb598 (Nat.le_of_eq hg.symm)) hb); replace HO597 := Aside0.mk (Kd.N_below (Kd.N_elderB z3_4 gb598 (Nat.le_of_eq hg.symm)) hb); have BK598 := Aside0.mk (hbox); have GW598 := Aside0.mk ((by rw [hg]; exact (below_size sqh) : w.heap.size ≤ gb598)); have GE598 := Aside0.mk ((by rw [hg]; exact (below_size sqh) : w.heap.size ≤ gb598)); replace HB := Aside0.mk (below_step sqh hb); have NB591_598 := Aside0.mk ((by rw [hg]; exact Nat.ne_of_lt (blk_lt (bo BK591)) : gb591 ≠ gb598)); have NB598_591 := Aside0.mk ((by rw [hg]; exact Nat.ne_of_gt (blk_lt (bo BK591)) : gb598 ≠ gb591)); replace BK591 := Aside0.mk (blk_below (bo BK591) hb); clear hb hbox hg; have hnb17 := NB598_591.out; have hnc17 := NB591_598.out; obtain ⟨hcz18_0, hcz18_1, hcz18_2, hcz18_3, hfz18_0, hfz18_1, hfz18_2, hfz18_3⟩ := sd4 BK598.out; obtain ⟨Ao19, co19, eo19⟩ := Kd.N_slice HO597.out; subst eo19) | ((with_reducible refine gate_callee (f := 8) rfl ?_); refine goesL_ (some 22) rfl rfl Tryd.func8 sqk rfl #[.agg #[.int .i64 t592, .int .i64 t593, .int .i64 t594, .slice Ao19 t595.length co19]] rfl sqm ?_; (with_reducible refine (impl_FormatCond.calls k t592 t593 t594 _ _ t595 t599 _ ?side1 ?side2 A7.out (HTab.out.below sqh)).mono ?_); (case side1 => refine (Kd.N_reads' (e := 27) (base := w.heap.size) (ok := fun k_ => ((some k_ ≠ (.slice Ao14 t587.length co14 : Value).ownBlock ∧ k_ ≠ gb591) ∧ k_ ≠ gb598)) (n := t595.length) (c := co19) ?_).2.2; exact z3_5); (case side2 => exact (Kd.N_reads' HO597.out).2.1); rintro e w20 ⟨rfl, hb⟩; refine ⟨_, rfl, ?_⟩; replace HO589 := Aside0.mk (Kd.N_below (by (with_reducible repeat (first | apply Kd.N_alloc | apply Kd.N_drewN | apply Kd.N_drew)); exact (Kd.N_mono (Kd.N_far (p := ⟨gb598, 3, none⟩) (Kd.N_far (p := ⟨gb598, 2, none⟩) (Kd.N_far (p := ⟨gb598, 1, none⟩) (Kd.N_far (p := ⟨gb598, 0, none⟩) (Kd.N_mono HO589.out (fun k_ hk => (⟨hk, hk.2⟩ : _ ∧ k_ ≠ gb598))) (fun _ hk => hk.2) (.int .i64 t592)) (fun _ hk => hk.2) (.int .i64 t593)) (fun _ hk => hk.2) (.int .i64 t594)) (fun _ hk => hk.2) (.slice Ao19 t595.length co19)) (fun _ h_ => h_.1))) hb); replace HO597 := Aside0.mk (Kd.N_below z3_5 hb); replace BK591 := Aside0.mk (blk_below (g := gb591) (o := .cells #[.int .i64 t584, .int .i64 t585, .int .i64 t586, .slice Ao14 t587.length co14] 27 (0, 0)) (bp BK591) hb); replace BK598 := Aside0.mk (blk_below (g := gb598) (o := .cells #[.int .i64 t592, .int .i64 t593, .int .i64 t594, .slice Ao19 t595.length co19] 27 (0, 0)) (bp BK598) hb); replace HB := Aside0.mk (below_step sqh hb); (try clear hb)) | ((with_reducible refine gate_callee (f := 6) rfl ?_); refine goesL_ (some 25) rfl rfl Tryd.func6 sqk rfl #[.string t599] rfl sqm ?_; (with_reducible refine (impl_ParseCond.calls k t599 t600 t601 t602 t603 t606 _ A8.out (HTab.out.below sqh)).mono ?_); rintro e w21 ⟨v604, rfl, ho0, hb⟩; refine ⟨_, rfl, ?_⟩; have HO605 := Aside0.mk (Kd.N_lower (Kd.N_mono (ok' := fun k_ => some k_ ≠ (.slice Ao14 t587.length co14 : Value).ownBlock ∧ some k_ ≠ (.slice Ao19 t595.length co19 : Value).ownBlock ∧ k_ ≠ gb591 ∧ k_ ≠ gb598) ho0 (fun k_ hk_ => ⟨(Kd.fresh' (Kd.N_lt z3_3) k_ hk_), (Kd.fresh' (Kd.N_lt z3_4) k_ hk_), (Kd.freshB (bo BK591) k_ hk_), (Kd.freshB (bo BK598) k_ hk_)⟩)) (below_size sqh)); replace HO589 := Aside0.mk (Kd.N_elder' z3_3 (Kd.N_base ho0) hb); replace HO597 := Aside0.mk (Kd.N_elder' z3_4 (Kd.N_base ho0) hb); replace BK591 := Aside0.mk (blk_below (bo BK591) hb); replace BK598 := Aside0.mk (blk_below (bo BK598) hb); replace HB := Aside0.mk (below_step sqh hb); (try clear hb); (try clear ho0)) | ((with_reducible refine gate_dst (N := 8) rfl ?_); refine bx (N := 8) (cs := #[.int .i64 0, .int .i64 0, .int .i64 0, .slice none 0 0]) (t := 27) ?_; intro gb607 hg w22 hbox hb; replace HO589 := Aside0.mk (Kd.N_below (Kd.N_elderB z3_3 gb607 (Nat.le_of_eq hg.symm)) hb); replace HO597 := Aside0.mk (Kd.N_below (Kd.N_elderB z3_4 gb607 (Nat.le_of_eq hg.symm)) hb); replace HO605 := Aside0.mk (Kd.N_below (Kd.N_elderB z3_7 gb607 (Nat.le_of_eq hg.symm)) hb); have BK607 := Aside0.mk (hbox); have GW607 := Aside0.mk ((by rw [hg]; exact (below_size sqh) : w.heap.size ≤ gb607)); have GE607 := Aside0.mk ((by rw [hg]; exact (below_size sqh) : w.heap.size ≤ gb607)); replace HB := Aside0.mk (below_step sqh hb); have NB591_607 := Aside0.mk ((by rw [hg]; exact Nat.ne_of_lt (blk_lt (bo BK591)) : gb591 ≠ gb607)); have NB607_591 := Aside0.mk ((by rw [hg]; exact Nat.ne_of_gt (blk_lt (bo BK591)) : gb607 ≠ gb591)); replace BK591 := Aside0.mk (blk_below (bo BK591) hb); have NB598_607 := Aside0.mk ((by rw [hg]; exact Nat.ne_of_lt (blk_lt (bo BK598)) : gb598 ≠ gb607)); have NB607_598 := Aside0.mk ((by rw [hg]; exact Nat.ne_of_gt (blk_lt (bo BK598)) : gb607 ≠ gb598)); replace BK598 := Aside0.mk (blk_below (bo BK598) hb); clear hb hbox hg; have hnb23 := NB607_591.out; have hnc23 := NB591_607.out; have hnb24 := NB607_598.out; have hnc24 := NB598_607.out; obtain ⟨hcz25_0, hcz25_1, hcz25_2, hcz25_3, hfz25_0, hfz25_1, hfz25_2, hfz25_3⟩ := sd4 BK607.out; obtain ⟨Ao26, co26, eo26⟩ := Kd.N_slice HO605.out; subst eo26))
  (try simp only [Act.put, List.setIfInBounds_toArray, List.set_cons_zero, List.set_cons_succ])
  go_cut [46] (fun v46 wc => ∃ (kq : Nat) (x46_8 : Bool), v46 = .bool x46_8 ∧ Aside0 (laws_FnTexts.j0 kq t599 t606 x46_8 t592 t593 t594 t595 t600 t601 t602 t603 = some r) ∧ Aside0 (kq ≤ k) ∧ Aside0 (Kd.N k27 27 wc w.heap.size (fun k_ => some k_ ≠ ((.slice Ao19 t595.length co19) : Value).ownBlock ∧ some k_ ≠ ((.slice Ao26 t603.length co26) : Value).ownBlock ∧ k_ ≠ gb591 ∧ k_ ≠ gb598 ∧ k_ ≠ gb607) (.slice Ao14 t587.length co14) t587) ∧ Aside0 (Kd.N k27 27 wc w.heap.size (fun k_ => some k_ ≠ ((.slice Ao14 t587.length co14) : Value).ownBlock ∧ some k_ ≠ ((.slice Ao26 t603.length co26) : Value).ownBlock ∧ k_ ≠ gb591 ∧ k_ ≠ gb598 ∧ k_ ≠ gb607) (.slice Ao19 t595.length co19) t595) ∧ Aside0 (Kd.N k27 27 wc w.heap.size (fun k_ => some k_ ≠ ((.slice Ao14 t587.length co14) : Value).ownBlock ∧ some k_ ≠ ((.slice Ao19 t595.length co19) : Value).ownBlock ∧ k_ ≠ gb591 ∧ k_ ≠ gb598 ∧ k_ ≠ gb607) (.slice Ao26 t603.length co26) t603) ∧ Aside0 (wc.heap[gb591]? = some (.cells #[.int .i64 t584, .int .i64 t585, .int .i64 t586, (.slice Ao14 t587.length co14)] 27 (0, 0))) ∧ Aside0 (wc.heap[gb598]? = some (.cells #[.int .i64 t592, .int .i64 t593, .int .i64 t594, (.slice Ao19 t595.length co19)] 27 (0, 0))) ∧ Aside0 (wc.heap[gb607]? = some (.cells #[.int .i64 t600, .int .i64 t601, .int .i64 t602, (.slice Ao26 t603.length co26)] 27 (0, 0))) ∧ Aside0 (Below w.heap.size w wc))
  case first =>
   have H := HC9.out
   clear HC9
   by_cases c27 : t590 = true
   ·subst c27
    replace H := iT H
    obtain ⟨t608, A28, H⟩ := bA H
    by_cases c29 : t608.toList = t583.toList
    ·rw [if_pos c29] at H
     have c29b0 : (t608.toList == t583.toList) = true := beq_iff_eq.mpr c29
     have c29b1 : (t608.toList != t583.toList) = false := bne_eq_false_iff_eq.mpr c29
     clear c29
     (first | rw [c29b0] | (simp only [i64_w, i32_w]; rw [c29b0]) | skip)
     obtain ⟨t609, A30, H⟩ := bA H
     by_cases c31 : t609 = true
     ·subst c31
      replace H := iT H
      obtain ⟨t610, A32, H⟩ := bA H
      have H' := Aside0.mk H
      clear H
      have hnb33 := NB591_598.out
      have hnc33 := NB598_591.out
      have hnb34 := NB591_607.out
      have hnc34 := NB607_591.out
      obtain ⟨hcz35_0, hcz35_1, hcz35_2, hcz35_3, hfz35_0, hfz35_1, hfz35_2, hfz35_3⟩ := sd4 BK591.out
      go_wp2_with (first | (go_at_call 8; (with_reducible refine (impl_FormatCond.calls k t584 t585 t586 _ _ t587 t608 _ ?side1 ?side2 A28.out (HTab.out.below sqh)).mono ?_); (case side1 => refine (Kd.N_reads' (e := 27) (base := w.heap.size) (ok := fun k_ => (((((True ∧ k_ ≠ gb591) ∧ some k_ ≠ (.slice Ao19 t595.length co19 : Value).ownBlock) ∧ k_ ≠ gb598) ∧ some k_ ≠ (.slice Ao26 t603.length co26 : Value).ownBlock) ∧ k_ ≠ gb607)) (n := t587.length) (c := co14) ?_).2.2; exact z3_0); (case side2 => exact (Kd.N_reads' HO589.out).2.1); rintro e w36 ⟨rfl, hb⟩; replace HO589 := Aside0.mk (Kd.N_below z3_0 hb); replace HO597 := Aside0.mk (Kd.N_below z3_1 hb); replace HO605 := Aside0.mk (Kd.N_below z3_2 hb); replace BK591 := Aside0.mk (blk_below (g := gb591) (o := .cells #[.int .i64 t584, .int .i64 t585, .int .i64 t586, .slice Ao14 t587.length co14] 27 (0, 0)) (bp BK591) hb); replace BK598 := Aside0.mk (blk_below (g := gb598) (o := .cells #[.int .i64 t592, .int .i64 t593, .int .i64 t594, .slice Ao19 t595.length co19] 27 (0, 0)) (bp BK598) hb); replace BK607 := Aside0.mk (blk_below (g := gb607) (o := .cells #[.int .i64 t600, .int .i64 t601, .int .i64 t602, .slice Ao26 t603.length co26] 27 (0, 0)) (bp BK607) hb); replace HB := Aside0.mk (below_step sqh hb); (try clear hb); obtain ⟨hcz37_0, hcz37_1, hcz37_2, hcz37_3, hfz37_0, hfz37_1, hfz37_2, hfz37_3⟩ := sd4 BK591.out) | (go_at_call 9; (with_reducible refine (impl_IsCond.calls k t584 t585 t586 _ _ t587 true _ ?side1 ?side2 A30.out).mono ?_); (case side1 => repeat (first | exact (Kd.N_reads' HO589.out).2.2 | (with_reducible refine Kd.C_alloc ?_ _) | (with_reducible refine Kd.C_drewN ?_ _) | (with_reducible refine Kd.C_drew ?_))); (case side2 => exact (Kd.N_reads' HO589.out).2.1); rintro e w38 ⟨rfl, hb⟩; replace HO589 := Aside0.mk (Kd.N_below z3_3 hb); replace HO597 := Aside0.mk (Kd.N_below z3_4 hb); replace HO605 := Aside0.mk (Kd.N_below z3_7 hb); replace BK591 := Aside0.mk (blk_below (bo BK591) hb); replace BK598 := Aside0.mk (blk_below (bo BK598) hb); replace BK607 := Aside0.mk (blk_below (bo BK607) hb); replace HB := Aside0.mk (below_step sqh hb); (try clear hb); have hnb39 := NB598_607.out; have hnc39 := NB607_598.out; obtain ⟨hcz40_0, hcz40_1, hcz40_2, hcz40_3, hfz40_0, hfz40_1, hfz40_2, hfz40_3⟩ := sd4 BK598.out) | (go_at_call 9; (with_reducible refine (impl_IsCond.calls k t592 t593 t594 _ _ t595 t610 _ ?side1 ?side2 A32.out).mono ?_); (case side1 => repeat (first | exact (Kd.N_reads' HO597.out).2.2 | (with_reducible refine Kd.C_alloc ?_ _) | (with_reducible refine Kd.C_drewN ?_ _) | (with_reducible refine Kd.C_drew ?_))); (case side2 => exact (Kd.N_reads' HO597.out).2.1); rintro e w41 ⟨rfl, hb⟩; replace HO589 := Aside0.mk (Kd.N_below z3_3 hb); replace HO597 := Aside0.mk (Kd.N_below z3_4 hb); replace HO605 := Aside0.mk (Kd.N_below z3_7 hb); replace BK591 := Aside0.mk (blk_below (bo BK591) hb); replace BK598 := Aside0.mk (blk_below (bo BK598) hb); replace BK607 := Aside0.mk (blk_below (bo BK607) hb); replace HB := Aside0.mk (below_step sqh hb); (try clear hb)))
      go_meet
      case rel => exact ⟨_, (((t599.toList != ([] : List UInt8)) != t610)), (by first | rfl | (simp; done) | (simp [*]; done) | (simp; generalize t599.toList = L_; generalize t610 = b_; cases L_ <;> cases b_ <;> rfl)), H', ⟨sqo⟩, ⟨by (with_reducible repeat (first | apply Kd.N_alloc | apply Kd.N_drewN | apply Kd.N_drew)); exact Kd.N_mono HO589.out (fun _ hk => ⟨hk.1.1.1.2, ⟨hk.1.2, ⟨hk.1.1.1.1.2, ⟨hk.1.1.2, hk.2⟩⟩⟩⟩)⟩, ⟨by (with_reducible repeat (first | apply Kd.N_alloc | apply Kd.N_drewN | apply Kd.N_drew)); exact Kd.N_mono HO597.out (fun _ hk => ⟨hk.1.1.1.1, ⟨hk.1.2, ⟨hk.1.1.1.2, ⟨hk.1.1.2, hk.2⟩⟩⟩⟩)⟩, ⟨by (with_reducible repeat (first | apply Kd.N_alloc | apply Kd.N_drewN | apply Kd.N_drew)); exact Kd.N_mono HO605.out (fun _ hk => ⟨hk.1.1, ⟨hk.1.2.1, ⟨hk.1.2.2.1, ⟨hk.1.2.2.2, hk.2⟩⟩⟩⟩)⟩, ⟨sqb BK591.out⟩, ⟨sqb BK598.out⟩, ⟨sqb BK607.out⟩, ⟨sqh⟩⟩
     ·replace c31 := Bool.eq_false_iff.mpr c31
      subst c31
      replace H := iF H
      have H' := Aside0.mk H
      clear H
      have hnb42 := NB591_598.out
      have hnc42 := NB598_591.out
      have hnb43 := NB591_607.out
      have hnc43 := NB607_591.out
      obtain ⟨hcz44_0, hcz44_1, hcz44_2, hcz44_3, hfz44_0, hfz44_1, hfz44_2, hfz44_3⟩ := sd4 BK591.out
      go_wp2_with (first | (go_at_call 8; (with_reducible refine (impl_FormatCond.calls k t584 t585 t586 _ _ t587 t608 _ ?side1 ?side2 A28.out (HTab.out.below sqh)).mono ?_); (case side1 => refine (Kd.N_reads' (e := 27) (base := w.heap.size) (ok := fun k_ => (((((True ∧ k_ ≠ gb591) ∧ some k_ ≠ (.slice Ao19 t595.length co19 : Value).ownBlock) ∧ k_ ≠ gb598) ∧ some k_ ≠ (.slice Ao26 t603.length co26 : Value).ownBlock) ∧ k_ ≠ gb607)) (n := t587.length) (c := co14) ?_).2.2; exact z3_0); (case side2 => exact (Kd.N_reads' HO589.out).2.1); rintro e w45 ⟨rfl, hb⟩; replace HO589 := Aside0.mk (Kd.N_below z3_0 hb); replace HO597 := Aside0.mk (Kd.N_below z3_1 hb); replace HO605 := Aside0.mk (Kd.N_below z3_2 hb); replace BK591 := Aside0.mk (blk_below (g := gb591) (o := .cells #[.int .i64 t584, .int .i64 t585, .int .i64 t586, .slice Ao14 t587.length co14] 27 (0, 0)) (bp BK591) hb); replace BK598 := Aside0.mk (blk_below (g := gb598) (o := .cells #[.int .i64 t592, .int .i64 t593, .int .i64 t594, .slice Ao19 t595.length co19] 27 (0, 0)) (bp BK598) hb); replace BK607 := Aside0.mk (blk_below (g := gb607) (o := .cells #[.int .i64 t600, .int .i64 t601, .int .i64 t602, .slice Ao26 t603.length co26] 27 (0, 0)) (bp BK607) hb); replace HB := Aside0.mk (below_step sqh hb); (try clear hb); obtain ⟨hcz46_0, hcz46_1, hcz46_2, hcz46_3, hfz46_0, hfz46_1, hfz46_2, hfz46_3⟩ := sd4 BK591.out) | (go_at_call 9; (with_reducible refine (impl_IsCond.calls k t584 t585 t586 _ _ t587 false _ ?side1 ?side2 A30.out).mono ?_); (case side1 => repeat (first | exact (Kd.N_reads' HO589.out).2.2 | (with_reducible refine Kd.C_alloc ?_ _) | (with_reducible refine Kd.C_drewN ?_ _) | (with_reducible refine Kd.C_drew ?_))); (case side2 => exact (Kd.N_reads' HO589.out).2.1); rintro e w47 ⟨rfl, hb⟩; replace HO589 := Aside0.mk (Kd.N_below z3_3 hb); replace HO597 := Aside0.mk (Kd.N_below z3_4 hb); replace HO605 := Aside0.mk (Kd.N_below z3_7 hb); replace BK591 := Aside0.mk (blk_below (bo BK591) hb); replace BK598 := Aside0.mk (blk_below (bo BK598) hb); replace BK607 := Aside0.mk (blk_below (bo BK607) hb); replace HB := Aside0.mk (below_step sqh hb); (try clear hb)))
      go_meet
      case rel => exact ⟨_, (true), sqr, H', ⟨sqo⟩, ⟨by (with_reducible repeat (first | apply Kd.N_alloc | apply Kd.N_drewN | apply Kd.N_drew)); exact Kd.N_mono HO589.out (fun _ hk => ⟨hk.1.1.1.2, ⟨hk.1.2, ⟨hk.1.1.1.1.2, ⟨hk.1.1.2, hk.2⟩⟩⟩⟩)⟩, ⟨by (with_reducible repeat (first | apply Kd.N_alloc | apply Kd.N_drewN | apply Kd.N_drew)); exact Kd.N_mono HO597.out (fun _ hk => ⟨hk.1.1.1.1, ⟨hk.1.2, ⟨hk.1.1.1.2, ⟨hk.1.1.2, hk.2⟩⟩⟩⟩)⟩, ⟨by (with_reducible repeat (first | apply Kd.N_alloc | apply Kd.N_drewN | apply Kd.N_drew)); exact Kd.N_mono HO605.out (fun _ hk => ⟨hk.1.1, ⟨hk.1.2.1, ⟨hk.1.2.2.1, ⟨hk.1.2.2.2, hk.2⟩⟩⟩⟩)⟩, ⟨sqb BK591.out⟩, ⟨sqb BK598.out⟩, ⟨sqb BK607.out⟩, ⟨sqh⟩⟩
    ·rw [if_neg c29] at H
     have c29b0 : (t608.toList == t583.toList) = false := beq_eq_false_iff_ne.mpr c29
     have c29b1 : (t608.toList != t583.toList) = true := bne_iff_ne.mpr c29
     (first | rw [c29b0] | (simp only [i64_w, i32_w]; rw [c29b0]) | skip)
     have H' := Aside0.mk H
     clear H
     have hnb48 := NB591_598.out
     have hnc48 := NB598_591.out
     have hnb49 := NB591_607.out
     have hnc49 := NB607_591.out
     obtain ⟨hcz50_0, hcz50_1, hcz50_2, hcz50_3, hfz50_0, hfz50_1, hfz50_2, hfz50_3⟩ := sd4 BK591.out
     go_wp2_with (first | (go_at_call 8; (with_reducible refine (impl_FormatCond.calls k t584 t585 t586 _ _ t587 t608 _ ?side1 ?side2 A28.out (HTab.out.below sqh)).mono ?_); (case side1 => refine (Kd.N_reads' (e := 27) (base := w.heap.size) (ok := fun k_ => (((((True ∧ k_ ≠ gb591) ∧ some k_ ≠ (.slice Ao19 t595.length co19 : Value).ownBlock) ∧ k_ ≠ gb598) ∧ some k_ ≠ (.slice Ao26 t603.length co26 : Value).ownBlock) ∧ k_ ≠ gb607)) (n := t587.length) (c := co14) ?_).2.2; exact z3_0); (case side2 => exact (Kd.N_reads' HO589.out).2.1); rintro e w51 ⟨rfl, hb⟩; replace HO589 := Aside0.mk (Kd.N_below z3_0 hb); replace HO597 := Aside0.mk (Kd.N_below z3_1 hb); replace HO605 := Aside0.mk (Kd.N_below z3_2 hb); replace BK591 := Aside0.mk (blk_below (g := gb591) (o := .cells #[.int .i64 t584, .int .i64 t585, .int .i64 t586, .slice Ao14 t587.length co14] 27 (0, 0)) (bp BK591) hb); replace BK598 := Aside0.mk (blk_below (g := gb598) (o := .cells #[.int .i64 t592, .int .i64 t593, .int .i64 t594, .slice Ao19 t595.length co19] 27 (0, 0)) (bp BK598) hb); replace BK607 := Aside0.mk (blk_below (g := gb607) (o := .cells #[.int .i64 t600, .int .i64 t601, .int .i64 t602, .slice Ao26 t603.length co26] 27 (0, 0)) (bp BK607) hb); replace HB := Aside0.mk (below_step sqh hb); (try clear hb)))
     go_meet
     case rel => exact ⟨_, (true), sqr, H', ⟨sqo⟩, ⟨by (with_reducible repeat (first | apply Kd.N_alloc | apply Kd.N_drewN | apply Kd.N_drew)); exact Kd.N_mono HO589.out (fun _ hk => ⟨hk.1.1.1.2, ⟨hk.1.2, ⟨hk.1.1.1.1.2, ⟨hk.1.1.2, hk.2⟩⟩⟩⟩)⟩, ⟨by (with_reducible repeat (first | apply Kd.N_alloc | apply Kd.N_drewN | apply Kd.N_drew)); exact Kd.N_mono HO597.out (fun _ hk => ⟨hk.1.1.1.1, ⟨hk.1.2, ⟨hk.1.1.1.2, ⟨hk.1.1.2, hk.2⟩⟩⟩⟩)⟩, ⟨by (with_reducible repeat (first | apply Kd.N_alloc | apply Kd.N_drewN | apply Kd.N_drew)); exact Kd.N_mono HO605.out (fun _ hk => ⟨hk.1.1, ⟨hk.1.2.1, ⟨hk.1.2.2.1, ⟨hk.1.2.2.2, hk.2⟩⟩⟩⟩)⟩, ⟨sqb BK591.out⟩, ⟨sqb BK598.out⟩, ⟨sqb BK607.out⟩, ⟨sqh⟩⟩
   ·replace c27 := Bool.eq_false_iff.mpr c27
    subst c27
    replace H := iF H
    obtain ⟨t611, A52, H⟩ := bA H
    have H' := Aside0.mk H
    clear H
    have hnb53 := NB598_591.out
    have hnc53 := NB591_598.out
    have hnb54 := NB598_607.out
    have hnc54 := NB607_598.out
    obtain ⟨hcz55_0, hcz55_1, hcz55_2, hcz55_3, hfz55_0, hfz55_1, hfz55_2, hfz55_3⟩ := sd4 BK598.out
    go_wp2_with (first | (go_at_call 9; (with_reducible refine (impl_IsCond.calls k t592 t593 t594 _ _ t595 t611 _ ?side1 ?side2 A52.out).mono ?_); (case side1 => refine (Kd.N_reads' (e := 27) (base := w.heap.size) (ok := fun k_ => ((((some k_ ≠ (.slice Ao14 t587.length co14 : Value).ownBlock ∧ k_ ≠ gb591) ∧ k_ ≠ gb598) ∧ some k_ ≠ (.slice Ao26 t603.length co26 : Value).ownBlock) ∧ k_ ≠ gb607)) (n := t595.length) (c := co19) ?_).2.2; exact z3_1); (case side2 => exact (Kd.N_reads' HO597.out).2.1); rintro e w56 ⟨rfl, hb⟩; replace HO589 := Aside0.mk (Kd.N_below z3_0 hb); replace HO597 := Aside0.mk (Kd.N_below z3_1 hb); replace HO605 := Aside0.mk (Kd.N_below z3_2 hb); replace BK591 := Aside0.mk (blk_below (g := gb591) (o := .cells #[.int .i64 t584, .int .i64 t585, .int .i64 t586, .slice Ao14 t587.length co14] 27 (0, 0)) (bp BK591) hb); replace BK598 := Aside0.mk (blk_below (g := gb598) (o := .cells #[.int .i64 t592, .int .i64 t593, .int .i64 t594, .slice Ao19 t595.length co19] 27 (0, 0)) (bp BK598) hb); replace BK607 := Aside0.mk (blk_below (g := gb607) (o := .cells #[.int .i64 t600, .int .i64 t601, .int .i64 t602, .slice Ao26 t603.length co26] 27 (0, 0)) (bp BK607) hb); replace HB := Aside0.mk (below_step sqh hb); (try clear hb)))
    go_meet
    case rel => exact ⟨_, (((t599.toList != ([] : List UInt8)) != t611)), (by first | rfl | (simp; done) | (simp [*]; done) | (simp; generalize t599.toList = L_; generalize t611 = b_; cases L_ <;> cases b_ <;> rfl)), H', ⟨sqo⟩, ⟨by (with_reducible repeat (first | apply Kd.N_alloc | apply Kd.N_drewN | apply Kd.N_drew)); exact Kd.N_mono HO589.out (fun _ hk => ⟨hk.1.1.1.2, ⟨hk.1.2, ⟨hk.1.1.1.1.2, ⟨hk.1.1.2, hk.2⟩⟩⟩⟩)⟩, ⟨by (with_reducible repeat (first | apply Kd.N_alloc | apply Kd.N_drewN | apply Kd.N_drew)); exact Kd.N_mono HO597.out (fun _ hk => ⟨hk.1.1.1.1, ⟨hk.1.2, ⟨hk.1.1.1.2, ⟨hk.1.1.2, hk.2⟩⟩⟩⟩)⟩, ⟨by (with_reducible repeat (first | apply Kd.N_alloc | apply Kd.N_drewN | apply Kd.N_drew)); exact Kd.N_mono HO605.out (fun _ hk => ⟨hk.1.1, ⟨hk.1.2.1, ⟨hk.1.2.2.1, ⟨hk.1.2.2.2, hk.2⟩⟩⟩⟩)⟩, ⟨sqb BK591.out⟩, ⟨sqb BK598.out⟩, ⟨sqb BK607.out⟩, ⟨sqh⟩⟩
  case rest =>
   clear HC9; try clear c1; try clear c2; try clear p2; try clear c3; try clear c4; try clear c5; try clear c6; try clear c7; try clear c8; try clear c17; try clear c23; try clear c24; try clear c27; try clear c29; try clear c29b0; try clear c29b1; try clear c31; try clear c33; try clear c34; try clear c39; try clear c42; try clear c43; try clear c48; try clear c49; try clear c53; try clear c54; try clear hcz13_0; try clear hcz13_1; try clear hcz13_2; try clear hcz13_3; try clear hcz18_0; try clear hcz18_1; try clear hcz18_2; try clear hcz18_3; try clear hcz25_0; try clear hcz25_1; try clear hcz25_2; try clear hcz25_3; try clear hcz35_0; try clear hcz35_1; try clear hcz35_2; try clear hcz35_3; try clear hcz37_0; try clear hcz37_1; try clear hcz37_2; try clear hcz37_3; try clear hcz40_0; try clear hcz40_1; try clear hcz40_2; try clear hcz40_3; try clear hcz44_0; try clear hcz44_1; try clear hcz44_2
   try clear hcz44_3; try clear hcz46_0; try clear hcz46_1; try clear hcz46_2; try clear hcz46_3; try clear hcz50_0; try clear hcz50_1; try clear hcz50_2; try clear hcz50_3; try clear hcz55_0; try clear hcz55_1; try clear hcz55_2; try clear hcz55_3; try clear hfz13_0; try clear hfz13_1; try clear hfz13_2; try clear hfz13_3; try clear hfz18_0; try clear hfz18_1; try clear hfz18_2; try clear hfz18_3; try clear hfz25_0; try clear hfz25_1; try clear hfz25_2; try clear hfz25_3; try clear hfz35_0; try clear hfz35_1; try clear hfz35_2; try clear hfz35_3; try clear hfz37_0; try clear hfz37_1; try clear hfz37_2; try clear hfz37_3; try clear hfz40_0; try clear hfz40_1; try clear hfz40_2; try clear hfz40_3; try clear hfz44_0; try clear hfz44_1; try clear hfz44_2; try clear hfz44_3; try clear hfz46_0; try clear hfz46_1; try clear hfz46_2; try clear hfz46_3; try clear hfz50_0; try clear hfz50_1; try clear hfz50_2
   try clear hfz50_3; try clear hfz55_0; try clear hfz55_1; try clear hfz55_2; try clear hfz55_3
   obtain ⟨kq, x46_8, rfl, HA, HJ8, HO_592003, HO_599003, HO_608003, BK591, BK598, BK607, HB⟩ := hcut
   cases kq with
   | zero => exact absurd HA.out (by simp [laws_FnTexts.j0])
   | succ kj8 =>
    have H := HA.out
    clear HA
    simp only [laws_FnTexts.j0] at H
    by_cases c57 : x46_8 = true
    ·subst c57
     replace H := iT H
     exact absurd ((Option.some.inj H).trans hr_.out) (by decide)
    ·replace c57 := Bool.eq_false_iff.mpr c57
     subst c57
     replace H := iF H
     by_cases c58 : t599.toList = ([] : List UInt8)
     ·rw [if_pos c58] at H
      have c58b0 : (t599.toList == ([] : List UInt8)) = true := beq_iff_eq.mpr c58
      have c58b1 : (t599.toList != ([] : List UInt8)) = false := bne_eq_false_iff_eq.mpr c58
      clear c58
      by_cases c59 : t606 = true
      ·subst c59
       replace H := iT H
       exact absurd ((Option.some.inj H).trans hr_.out) (by decide)
      ·replace c59 := Bool.eq_false_iff.mpr c59
       subst c59
       replace H := iF H
       obtain ⟨t612, A60, H⟩ := bA H
       obtain rfl := Option.some.inj H
       have hnb61 := NB598_591.out
       have hnc61 := NB591_598.out
       have hnb62 := NB598_607.out
       have hnc62 := NB607_598.out
       obtain ⟨hcz63_0, hcz63_1, hcz63_2, hcz63_3, hfz63_0, hfz63_1, hfz63_2, hfz63_3⟩ := sd4 BK598.out
       go_wp2_with (first | (go_at_call 10; (with_reducible refine (spec_IsCond.calls kj8 t592 t593 t594 _ _ t595 t612 _ ?side1 ?side2 A60.out).mono ?_); (case side1 => repeat (first | exact (Kd.N_reads' HO_599003.out).2.2 | (with_reducible refine Kd.C_alloc ?_ _) | (with_reducible refine Kd.C_drewN ?_ _) | (with_reducible refine Kd.C_drew ?_))); (case side2 => exact (Kd.N_reads' HO_599003.out).2.1); rintro e w64 ⟨rfl, hb⟩; replace HO_592003 := Aside0.mk (Kd.N_below (by (with_reducible repeat (first | apply Kd.N_alloc | apply Kd.N_drewN | apply Kd.N_drew)); exact HO_592003.out) hb); replace HO_599003 := Aside0.mk (Kd.N_below (by (with_reducible repeat (first | apply Kd.N_alloc | apply Kd.N_drewN | apply Kd.N_drew)); exact HO_599003.out) hb); replace HO_608003 := Aside0.mk (Kd.N_below (by (with_reducible repeat (first | apply Kd.N_alloc | apply Kd.N_drewN | apply Kd.N_drew)); exact HO_608003.out) hb); replace BK591 := Aside0.mk (blk_below (bo BK591) hb); replace BK598 := Aside0.mk (blk_below (bo BK598) hb); replace BK607 := Aside0.mk (blk_below (bo BK607) hb); replace HB := Aside0.mk (below_step sqh hb); (try clear hb)))
       go_ret
       exact ⟨sqe, sqh⟩
     ·rw [if_neg c58] at H
      have c58b0 : (t599.toList == ([] : List UInt8)) = false := beq_eq_false_iff_ne.mpr c58
      have c58b1 : (t599.toList != ([] : List UInt8)) = true := bne_iff_ne.mpr c58
      by_cases c65 : (t599.size : Int) > 400
      ·rw [if_pos c65] at H
       have c65b0 : decide (400 < (t599.size : Int)) = true := decide_eq_true c65
       have c65b1 : decide (400 < t599.size) = true := decide_eq_true (by omega)
       clear c65
       obtain rfl := Option.some.inj H
       go_wp2
       go_ret
       exact ⟨sqe, sqh⟩
      ·rw [if_neg c65] at H
       have c65b0 : decide (400 < (t599.size : Int)) = false := decide_eq_false c65
       have c65b1 : decide (400 < t599.size) = false := decide_eq_false (by omega)
       clear c65
       by_cases c66 : t606 = true
       ·subst c66
        replace H := iT H
        obtain ⟨t613, A67, H⟩ := bA H
        obtain rfl := Option.some.inj H
        have hnb68 := NB607_591.out
        have hnc68 := NB591_607.out
        have hnb69 := NB607_598.out
        have hnc69 := NB598_607.out
        obtain ⟨hcz70_0, hcz70_1, hcz70_2, hcz70_3, hfz70_0, hfz70_1, hfz70_2, hfz70_3⟩ := sd4 BK607.out
        have hnb71 := NB598_591.out
        have hnc71 := NB591_598.out
        obtain ⟨hcz72_0, hcz72_1, hcz72_2, hcz72_3, hfz72_0, hfz72_1, hfz72_2, hfz72_3⟩ := sd4 BK598.out
        go_wp2_with (first | (go_at_call 11; (with_reducible refine (impl_EqualConds.calls kj8 t600 t601 t602 _ _ t603 t592 t593 t594 _ _ t595 t613 _ ?side1 ?side2 ?side3 ?side4 A67.out).mono ?_); (case side1 => repeat (first | exact (Kd.N_reads' HO_608003.out).2.2 | (with_reducible refine Kd.C_alloc ?_ _) | (with_reducible refine Kd.C_drewN ?_ _) | (with_reducible refine Kd.C_drew ?_))); (case side2 => exact (Kd.N_reads' HO_608003.out).2.1); (case side3 => repeat (first | exact (Kd.N_reads' HO_599003.out).2.2 | (with_reducible refine Kd.C_alloc ?_ _) | (with_reducible refine Kd.C_drewN ?_ _) | (with_reducible refine Kd.C_drew ?_))); (case side4 => exact (Kd.N_reads' HO_599003.out).2.1); rintro e w73 ⟨rfl, hb⟩; replace HO_592003 := Aside0.mk (Kd.N_below (by (with_reducible repeat (first | apply Kd.N_alloc | apply Kd.N_drewN | apply Kd.N_drew)); exact HO_592003.out) hb); replace HO_599003 := Aside0.mk (Kd.N_below (by (with_reducible repeat (first | apply Kd.N_alloc | apply Kd.N_drewN | apply Kd.N_drew)); exact HO_599003.out) hb); replace HO_608003 := Aside0.mk (Kd.N_below (by (with_reducible repeat (first | apply Kd.N_alloc | apply Kd.N_drewN | apply Kd.N_drew)); exact HO_608003.out) hb); replace BK591 := Aside0.mk (blk_below (bo BK591) hb); replace BK598 := Aside0.mk (blk_below (bo BK598) hb); replace BK607 := Aside0.mk (blk_below (bo BK607) hb); replace HB := Aside0.mk (below_step sqh hb); (try clear hb)))
        go_ret
        exact ⟨sqe, sqh⟩
       ·replace c66 := Bool.eq_false_iff.mpr c66
        subst c66
        replace H := iF H
        exact absurd ((Option.some.inj H).trans hr_.out) (by decide)

/-- THE ONE PURE STATEMENT of laws_FnTexts. -/
def laws_FnTexts.Pure : Prop := ∀ (l0 : List Int), ((l0.length ≤ maxLen ∧ ∀ y2 ∈ l0, (Lit.int .u8 y2).wf = true)) → ∃ k, laws_FnTexts.f k l0 = some true

end Go.Proofs.YtilcmgdjfhhcdaaDoor.XFnTexts
