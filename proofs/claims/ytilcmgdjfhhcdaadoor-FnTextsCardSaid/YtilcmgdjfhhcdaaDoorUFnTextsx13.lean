/- Written by this session's own program (wip/xprint, which runs over the kit's print): what the functions that the law reaches come to, each proved; and the law's row. Conditions: none. -/
import Derived.Test.YtilcmgdjfhhcdaaDoorUFnTextsSq
import Derived.Test.YtilcmgdjfhhcdaaDoorUFnTextsx0
import Derived.Test.YtilcmgdjfhhcdaaDoorUFnTextsx1
import Derived.Test.YtilcmgdjfhhcdaaDoorUFnTextsx4
import Derived.Test.YtilcmgdjfhhcdaaDoorUFnTextsx5
import Derived.Test.YtilcmgdjfhhcdaaDoorUFnTextsx6
import Derived.Test.YtilcmgdjfhhcdaaDoorUFnTextsx7
import Derived.Test.YtilcmgdjfhhcdaaDoorUFnTextsx9
import Derived.Test.YtilcmgdjfhhcdaaDoorUFnTextsx12
namespace Go.Proofs.YtilcmgdjfhhcdaaDoor.XFnTexts
open Go.RowKit Go.Proofs.YtilcmgdjfhhcdaaDoorW.PrintWords Go.Proofs.YtilcmgdjfhhcdaaDoorW.PrintLast Go.Proofs.YtilcmgdjfhhcdaaDoorW.PrintMore Go.Proofs.YtilcmgdjfhhcdaaDoorSq
attribute [local go_sem] max2_int min2_int max_two min_two max_three min_three max_four min_four   -- for this text's walks alone
set_option linter.unusedVariables false
set_option linter.unusedSimpArgs false

/-! ### strconv_lower: function 82 -/
/-- A new reader of a text. -/
def strconv_lower.f (s : ByteArray) : Option (ByteArray × Bool) := some (s, false)

/-! ### impl_ParseCond: function 6 -/
def impl_ParseCond.f (k : Nat) (a0 : ByteArray) : Option (Int × Int × Int × (List (S27)) × Bool) := if (a0.size : Int) > 400 then (some (0, 0, 0, ([] : List (S27)), false)) else ((strconv_lower.f a0).bind fun bt513 => ((impl_condReader_cond.f k bt513.1 bt513.2).bind fun bt516 => (if bt516.2.2.2.2.2 = true then (some (0, 0, 0, ([] : List (S27)), false)) else (if bt516.2.2.2.2.1.toList = ([] : List UInt8) then ((impl_FormatCond.f k bt516.1 bt516.2.1 bt516.2.2.1 bt516.2.2.2.1).bind fun t525 => (if t525.toList = a0.toList then (some (bt516.1, bt516.2.1, bt516.2.2.1, bt516.2.2.2.1, true)) else (some (0, 0, 0, ([] : List (S27)), false)))) else (some (0, 0, 0, ([] : List (S27)), false))))))
theorem z6_0 {Q : Prop} (g : Q := by repeat (first | (with_reducible first | exact HB.out | apply below_alloc | apply pw_below_drewN | apply below_drew1 | refine below_set ?_ (IsS42.ge HI515.out) | refine below_set ?_ GE512.out) | exact HB.out)) : Q := g
theorem z6_1 {Q : Prop} (g : Q := by repeat (first | (with_reducible first | exact HI515.out | apply IsS42.alloc | apply IsS42.drewN | apply IsS42.drew | apply IsS42.set_0 | apply IsS42.set_1 | refine IsS42.far ?_ NB515_512.out _) | exact HI515.out)) : Q := g
theorem z6_2 {Q : Prop} (g : Q := by rw [hg]; exact Nat.ne_of_lt (IsS42.lt (show IsS42 w _ g515 t522 false from by repeat (first | (with_reducible first | exact HI515.out | apply IsS42.alloc | apply IsS42.drewN | apply IsS42.drew | apply IsS42.set_0 | apply IsS42.set_1 | refine IsS42.far ?_ NB515_512.out _) | exact HI515.out)))) : Q := g
theorem z6_3 {Q : Prop} (g : Q := by rw [hg]; exact Nat.ne_of_gt (IsS42.lt (show IsS42 w _ g515 t522 false from by repeat (first | (with_reducible first | exact HI515.out | apply IsS42.alloc | apply IsS42.drewN | apply IsS42.drew | apply IsS42.set_0 | apply IsS42.set_1 | refine IsS42.far ?_ NB515_512.out _) | exact HI515.out)))) : Q := g
theorem z6_4 {Q : Prop} (g : Q := by (with_reducible repeat (first | apply Kd.N_alloc | apply Kd.N_drewN | apply Kd.N_drew)); exact (Kd.N_mono (Kd.N_far (p := ⟨gb524, 3, none⟩) (Kd.N_far (p := ⟨gb524, 2, none⟩) (Kd.N_far (p := ⟨gb524, 1, none⟩) (Kd.N_far (p := ⟨gb524, 0, none⟩) (Kd.N_mono HO521.out (fun k_ hk => (⟨hk, hk.2⟩ : _ ∧ k_ ≠ gb524))) (fun _ hk => hk.2) (.int .i64 t516)) (fun _ hk => hk.2) (.int .i64 t517)) (fun _ hk => hk.2) (.int .i64 t518)) (fun _ hk => hk.2) (.slice Ao42 t519.length co42)) (fun _ h_ => h_.1))) : Q := g
theorem z6_5 {Q : Prop} (g : Q := by (with_reducible repeat (first | apply Kd.N_alloc | apply Kd.N_drewN | apply Kd.N_drew)); exact (Kd.N_mono (Kd.N_far (p := ⟨gb524, 3, none⟩) (Kd.N_far (p := ⟨gb524, 2, none⟩) (Kd.N_far (p := ⟨gb524, 1, none⟩) (Kd.N_far (p := ⟨gb524, 0, none⟩) (Kd.N_mono HO521.out (fun k_ hk => (⟨hk, hk.2⟩ : _ ∧ k_ ≠ gb524))) (fun _ hk => hk.2) (.int .i64 t516)) (fun _ hk => hk.2) (.int .i64 t517)) (fun _ hk => hk.2) (.int .i64 t518)) (fun _ hk => hk.2) (.slice Ao29 t519.length co29)) (fun _ h_ => h_.1))) : Q := g
theorem z6_6 {Q : Prop} (g : Q := by (with_reducible repeat (first | apply Kd.N_alloc | apply Kd.N_drewN | apply Kd.N_drew)); exact HO521.out) : Q := g
theorem z6_7 {Q : Prop} (g : Q := by rw [hg]; exact (below_size sqh)) : Q := g
theorem z6_8 {Q : Prop} (g : Q := by repeat (first | (with_reducible first | exact HB.out | apply below_alloc | apply pw_below_drewN | apply below_drew1 | refine below_set ?_ (IsS42.ge HI515.out) | refine below_set ?_ GE512.out | refine below_set ?_ GE524.out) | exact HB.out)) : Q := g
theorem z6_9 {Q : Prop} (g : Q := by rw [hg]; exact (below_size z6_0)) : Q := g
set_option maxHeartbeats 8000000 in
set_option maxRecDepth 100000 in
theorem impl_ParseCond.calls (k : Nat) (a0 : ByteArray) (r1 : Int) (r2 : Int) (r3 : Int) (r4 : List (S27)) (r5 : Bool) (w : World) (h : impl_ParseCond.f k a0 = some (r1, r2, r3, r4, r5)) (hT : Tabs w) :
  Calls Tryd.prog 6 #[.string a0] w fun e w' => ∃ v3_ : Value, e = .returned (.tuple #[.agg #[.int .i64 r1, .int .i64 r2, .int .i64 r3, v3_], .bool r5]) ∧ Kd.N k27 27 w' w.heap.size (fun k_ => (w.heap.size ≤ k_)) v3_ r4 ∧ Below w.heap.size w w' := by
 have hu27 := Tryd.underlying27
 have HB := Aside0.mk (Below.refl w.heap.size w)
 have HTab := Aside0.mk hT
 clear hT
 have H : (if (a0.size : Int) > 400 then (some (0, 0, 0, ([] : List (S27)), false)) else ((strconv_lower.f a0).bind fun bt513 => ((impl_condReader_cond.f k bt513.1 bt513.2).bind fun bt516 => (if bt516.2.2.2.2.2 = true then (some (0, 0, 0, ([] : List (S27)), false)) else (if bt516.2.2.2.2.1.toList = ([] : List UInt8) then ((impl_FormatCond.f k bt516.1 bt516.2.1 bt516.2.2.1 bt516.2.2.2.1).bind fun t525 => (if t525.toList = a0.toList then (some (bt516.1, bt516.2.1, bt516.2.2.1, bt516.2.2.2.1, true)) else (some (0, 0, 0, ([] : List (S27)), false)))) else (some (0, 0, 0, ([] : List (S27)), false))))))) = some (r1, r2, r3, r4, r5) := h
 clear h
 by_cases c2 : (a0.size : Int) > 400
 ·rw [if_pos c2] at H
  have c2b0 : decide (400 < (a0.size : Int)) = true := decide_eq_true c2
  have c2b1 : decide (400 < a0.size) = true := decide_eq_true (by omega)
  clear c2
  simp only [Option.some.injEq, Prod.mk.injEq] at H
  obtain ⟨rfl, rfl, rfl, rfl, rfl⟩ := H
  go_enter Tryd.func6, Tryd.ntmps6
  go_wp2_with (first | ((with_reducible refine gate_dst (N := 2) rfl ?_); refine bx (N := 2) (cs := #[.int .i64 0, .int .i64 0, .int .i64 0, .slice none 0 0]) (t := 27) ?_; intro gb512 hg w3 hbox hb; have BK512 := Aside0.mk (hbox); have GW512 := Aside0.mk ((z6_7 : w.heap.size ≤ gb512)); have GE512 := Aside0.mk ((z6_7 : w.heap.size ≤ gb512)); replace HB := Aside0.mk (below_step sqh hb); clear hb hbox hg; obtain ⟨hcz4_0, hcz4_1, hcz4_2, hcz4_3, hfz4_0, hfz4_1, hfz4_2, hfz4_3⟩ := sd4 BK512.out))
  refine bodyPost_ret (results_ct rfl _ _ gb512 27 #[.int .i64 0, .int .i64 0, .int .i64 0, .slice none 0 0] (0, 0) _ rfl ?_ Tryd.underlying27 rfl sqk) rfl ?_; exact bp BK512
  exact ⟨_, sqe, by first | exact Kd.R_nil _ _ _ _ _ | exact Kd.N_nil _ _ _ _ _ | exact Kd.V_nil _ _ _ _ _ | exact Kd.Q_nil _ _ _ _ _ | exact Kd.S_nil _ _ _ _ _, sqh⟩
 ·rw [if_neg c2] at H
  have c2b0 : decide (400 < (a0.size : Int)) = false := decide_eq_false c2
  have c2b1 : decide (400 < a0.size) = false := decide_eq_false (by omega)
  clear c2
  replace H := Option.bind_eq_some_iff.mp H
  obtain ⟨⟨t513, t514⟩, A50, H⟩ := H
  obtain ⟨hh1, hh2⟩ : a0 = t513 ∧ false = t514 := by simpa [strconv_lower.f] using A50
  subst hh1
  subst hh2
  replace H : ((impl_condReader_cond.f k a0 false).bind fun bt516 => (if bt516.2.2.2.2.2 = true then (some (0, 0, 0, ([] : List (S27)), false)) else (if bt516.2.2.2.2.1.toList = ([] : List UInt8) then ((impl_FormatCond.f k bt516.1 bt516.2.1 bt516.2.2.1 bt516.2.2.2.1).bind fun t525 => (if t525.toList = a0.toList then (some (bt516.1, bt516.2.1, bt516.2.2.1, bt516.2.2.2.1, true)) else (some (0, 0, 0, ([] : List (S27)), false)))) else (some (0, 0, 0, ([] : List (S27)), false))))) = some (r1, r2, r3, r4, r5) := H
  have A5 := Aside0.mk A50
  clear A50
  obtain ⟨⟨t516, t517, t518, t519, t522, t523⟩, A6, H⟩ := bA H
  dsimp only at H
  by_cases c7 : t523 = true
  ·subst c7
   replace H := iT H
   simp only [Option.some.injEq, Prod.mk.injEq] at H
   obtain ⟨rfl, rfl, rfl, rfl, rfl⟩ := H
   go_enter Tryd.func6, Tryd.ntmps6
   go_wp2_with (first | ((with_reducible refine gate_dst (N := 2) rfl ?_); refine bx (N := 2) (cs := #[.int .i64 0, .int .i64 0, .int .i64 0, .slice none 0 0]) (t := 27) ?_; intro gb512 hg w8 hbox hb; have BK512 := Aside0.mk (hbox); have GW512 := Aside0.mk ((z6_7 : w.heap.size ≤ gb512)); have GE512 := Aside0.mk ((z6_7 : w.heap.size ≤ gb512)); replace HB := Aside0.mk (below_step sqh hb); clear hb hbox hg) | ((with_reducible refine gate_dst (N := 12) rfl ?_); refine bx (N := 12) (cs := #[.string a0, .bool false]) (t := 42) ?_; intro g515 hg w9 hbox hb2; have hgw := ((by rw [hg]; exact (below_size sqh)) : w.heap.size ≤ g515); have hb := below_step sqh hb2; have hi : IsS42 w w9 g515 a0 false := ⟨hbox, hgw⟩; clear hbox hg hgw; replace HB := Aside0.mk (hb); have HI515 := Aside0.mk (hi); have NB515_512 := Aside0.mk (IsS42.ne_blk hi (blk_below (bo BK512) hb2) (by decide)); have NB512_515 := Aside0.mk (Ne.symm (IsS42.ne_blk hi (blk_below (bo BK512) hb2) (by decide))); replace BK512 := Aside0.mk (blk_below (bo BK512) hb2); (try clear hb2)) | ((with_reducible refine gate_callee (f := 17) rfl ?_); refine goesL_ (some 14) rfl rfl Tryd.func17 sqk rfl #[.pointer (some ⟨g515, 0, none⟩)] rfl sqm ?_; (with_reducible refine (impl_condReader_cond.calls k g515 a0 false t516 t517 t518 t519 t522 true w _ ?side1 ?side2 A6.out HTab.out).mono ?_); (case side1 => repeat (first | (with_reducible first | exact HI515.out | apply IsS42.alloc | apply IsS42.drewN | apply IsS42.drew | apply IsS42.set_0 | apply IsS42.set_1 | refine IsS42.far ?_ NB515_512.out _) | exact HI515.out)); (case side2 => exact z6_0); rintro e w10 ⟨v520, rfl, ho0, hi, hb, hk⟩; refine ⟨_, rfl, ?_⟩; have HO521 := Aside0.mk (Kd.N_lower (Kd.N_mono (ok' := fun k_ => (w.heap.size ≤ k_) ∧ k_ ≠ gb512 ∧ k_ ≠ g515) ho0 (fun k_ hk_ => ⟨(Nat.le_trans (below_size z6_0) hk_), (Kd.freshB (bo BK512) k_ hk_), (IsS42.fresh z6_1 k_ hk_)⟩)) (below_size z6_0)); replace BK512 := Aside0.mk (KeepBut.blk hk (g' := gb512) (o := .cells #[.int .i64 0, .int .i64 0, .int .i64 0, .slice none 0 0] 27 (0, 0)) (sqb BK512.out) NB512_515.out (by simp)); replace HB := Aside0.mk (hb); replace HI515 := Aside0.mk (hi); (try clear hb); (try clear hk); (try clear hi); (try clear ho0)) | ((with_reducible refine gate_dst (N := 5) rfl ?_); refine bx (N := 5) (cs := #[.int .i64 0, .int .i64 0, .int .i64 0, .slice none 0 0]) (t := 27) ?_; intro gb524 hg w11 hbox hb; replace HO521 := Aside0.mk (Kd.N_below (Kd.N_elderB z6_6 gb524 (Nat.le_of_eq hg.symm)) hb); have BK524 := Aside0.mk (hbox); have GW524 := Aside0.mk ((z6_9 : w.heap.size ≤ gb524)); have GE524 := Aside0.mk ((z6_9 : w.heap.size ≤ gb524)); replace HB := Aside0.mk (below_step z6_0 hb); have NB512_524 := Aside0.mk ((by rw [hg]; exact Nat.ne_of_lt (blk_lt (bo BK512)) : gb512 ≠ gb524)); have NB524_512 := Aside0.mk ((by rw [hg]; exact Nat.ne_of_gt (blk_lt (bo BK512)) : gb524 ≠ gb512)); replace BK512 := Aside0.mk (blk_below (bo BK512) hb); have NB515_524 := Aside0.mk ((by rw [hg]; exact Nat.ne_of_lt (IsS42.lt (show IsS42 w _ g515 t522 true from by repeat (first | (with_reducible first | exact HI515.out | apply IsS42.alloc | apply IsS42.drewN | apply IsS42.drew | apply IsS42.set_0 | apply IsS42.set_1 | refine IsS42.far ?_ NB515_512.out _) | exact HI515.out))) : g515 ≠ gb524)); have NB524_515 := Aside0.mk ((by rw [hg]; exact Nat.ne_of_gt (IsS42.lt (show IsS42 w _ g515 t522 true from by repeat (first | (with_reducible first | exact HI515.out | apply IsS42.alloc | apply IsS42.drewN | apply IsS42.drew | apply IsS42.set_0 | apply IsS42.set_1 | refine IsS42.far ?_ NB515_512.out _) | exact HI515.out))) : gb524 ≠ g515)); replace HI515 := Aside0.mk (IsS42.below z6_1 hb); clear hb hbox hg; have hnb12 := NB524_512.out; have hnc12 := NB512_524.out; have hnb13 := NB524_515.out; have hnc13 := NB515_524.out; obtain ⟨hcz14_0, hcz14_1, hcz14_2, hcz14_3, hfz14_0, hfz14_1, hfz14_2, hfz14_3⟩ := sd4 BK524.out; obtain ⟨Ao15, co15, eo15⟩ := Kd.N_slice HO521.out; subst eo15; obtain ⟨HGz16, hgz16⟩ := HI515.out; have hcz16_0 := cellS42_0 HGz16; have hcz16_1 := cellS42_1 HGz16; have hfz16_0 := blk_frozen HGz16 0; have hfz16_1 := blk_frozen HGz16 1; clear HGz16 hgz16; have hnb17 := NB512_515.out; have hnc17 := NB515_512.out; obtain ⟨hcz18_0, hcz18_1, hcz18_2, hcz18_3, hfz18_0, hfz18_1, hfz18_2, hfz18_3⟩ := sd4 BK512.out))
   refine bodyPost_ret (results_ct rfl _ _ gb512 27 #[.int .i64 0, .int .i64 0, .int .i64 0, .slice none 0 0] (0, 0) _ rfl ?_ Tryd.underlying27 rfl sqk) rfl ?_; exact bp BK512
   exact ⟨_, sqe, by first | exact Kd.R_nil _ _ _ _ _ | exact Kd.N_nil _ _ _ _ _ | exact Kd.V_nil _ _ _ _ _ | exact Kd.Q_nil _ _ _ _ _ | exact Kd.S_nil _ _ _ _ _, by repeat (first | (with_reducible first | exact HB.out | apply below_alloc | apply pw_below_drewN | apply below_drew1 | refine below_set ?_ (IsS42.ge HI515.out) | refine below_set ?_ GE512.out | refine below_set ?_ GE524.out) | exact HB.out)⟩
  ·replace c7 := Bool.eq_false_iff.mpr c7
   subst c7
   replace H := iF H
   by_cases c19 : t522.toList = ([] : List UInt8)
   ·rw [if_pos c19] at H
    have c19b0 : (t522.toList == ([] : List UInt8)) = true := beq_iff_eq.mpr c19
    have c19b1 : (t522.toList != ([] : List UInt8)) = false := bne_eq_false_iff_eq.mpr c19
    clear c19
    obtain ⟨t525, A20, H⟩ := bA H
    by_cases c21 : t525.toList = a0.toList
    ·rw [if_pos c21] at H
     have c21b0 : (t525.toList == a0.toList) = true := beq_iff_eq.mpr c21
     have c21b1 : (t525.toList != a0.toList) = false := bne_eq_false_iff_eq.mpr c21
     clear c21
     simp only [Option.some.injEq, Prod.mk.injEq] at H
     obtain ⟨rfl, rfl, rfl, rfl, rfl⟩ := H
     go_enter Tryd.func6, Tryd.ntmps6
     go_wp2_with (first | ((with_reducible refine gate_dst (N := 2) rfl ?_); refine bx (N := 2) (cs := #[.int .i64 0, .int .i64 0, .int .i64 0, .slice none 0 0]) (t := 27) ?_; intro gb512 hg w22 hbox hb; have BK512 := Aside0.mk (hbox); have GW512 := Aside0.mk ((z6_7 : w.heap.size ≤ gb512)); have GE512 := Aside0.mk ((z6_7 : w.heap.size ≤ gb512)); replace HB := Aside0.mk (below_step sqh hb); clear hb hbox hg) | ((with_reducible refine gate_dst (N := 12) rfl ?_); refine bx (N := 12) (cs := #[.string a0, .bool false]) (t := 42) ?_; intro g515 hg w23 hbox hb2; have hgw := ((by rw [hg]; exact (below_size sqh)) : w.heap.size ≤ g515); have hb := below_step sqh hb2; have hi : IsS42 w w23 g515 a0 false := ⟨hbox, hgw⟩; clear hbox hg hgw; replace HB := Aside0.mk (hb); have HI515 := Aside0.mk (hi); have NB515_512 := Aside0.mk (IsS42.ne_blk hi (blk_below (bo BK512) hb2) (by decide)); have NB512_515 := Aside0.mk (Ne.symm (IsS42.ne_blk hi (blk_below (bo BK512) hb2) (by decide))); replace BK512 := Aside0.mk (blk_below (bo BK512) hb2); (try clear hb2)) | ((with_reducible refine gate_callee (f := 17) rfl ?_); refine goesL_ (some 14) rfl rfl Tryd.func17 sqk rfl #[.pointer (some ⟨g515, 0, none⟩)] rfl sqm ?_; (with_reducible refine (impl_condReader_cond.calls k g515 a0 false t516 t517 t518 t519 t522 false w _ ?side1 ?side2 A6.out HTab.out).mono ?_); (case side1 => repeat (first | (with_reducible first | exact HI515.out | apply IsS42.alloc | apply IsS42.drewN | apply IsS42.drew | apply IsS42.set_0 | apply IsS42.set_1 | refine IsS42.far ?_ NB515_512.out _) | exact HI515.out)); (case side2 => exact z6_0); rintro e w24 ⟨v520, rfl, ho0, hi, hb, hk⟩; refine ⟨_, rfl, ?_⟩; have HO521 := Aside0.mk (Kd.N_lower (Kd.N_mono (ok' := fun k_ => (w.heap.size ≤ k_) ∧ k_ ≠ gb512 ∧ k_ ≠ g515) ho0 (fun k_ hk_ => ⟨(Nat.le_trans (below_size z6_0) hk_), (Kd.freshB (bo BK512) k_ hk_), (IsS42.fresh z6_1 k_ hk_)⟩)) (below_size z6_0)); replace BK512 := Aside0.mk (KeepBut.blk hk (g' := gb512) (o := .cells #[.int .i64 0, .int .i64 0, .int .i64 0, .slice none 0 0] 27 (0, 0)) (sqb BK512.out) NB512_515.out (by simp)); replace HB := Aside0.mk (hb); replace HI515 := Aside0.mk (hi); (try clear hb); (try clear hk); (try clear hi); (try clear ho0)) | ((with_reducible refine gate_dst (N := 5) rfl ?_); refine bx (N := 5) (cs := #[.int .i64 0, .int .i64 0, .int .i64 0, .slice none 0 0]) (t := 27) ?_; intro gb524 hg w25 hbox hb; replace HO521 := Aside0.mk (Kd.N_below (Kd.N_elderB z6_6 gb524 (Nat.le_of_eq hg.symm)) hb); have BK524 := Aside0.mk (hbox); have GW524 := Aside0.mk ((z6_9 : w.heap.size ≤ gb524)); have GE524 := Aside0.mk ((z6_9 : w.heap.size ≤ gb524)); replace HB := Aside0.mk (below_step z6_0 hb); have NB512_524 := Aside0.mk ((by rw [hg]; exact Nat.ne_of_lt (blk_lt (bo BK512)) : gb512 ≠ gb524)); have NB524_512 := Aside0.mk ((by rw [hg]; exact Nat.ne_of_gt (blk_lt (bo BK512)) : gb524 ≠ gb512)); replace BK512 := Aside0.mk (blk_below (bo BK512) hb); have NB515_524 := Aside0.mk ((z6_2 : g515 ≠ gb524)); have NB524_515 := Aside0.mk ((z6_3 : gb524 ≠ g515)); replace HI515 := Aside0.mk (IsS42.below z6_1 hb); clear hb hbox hg; have hnb26 := NB524_512.out; have hnc26 := NB512_524.out; have hnb27 := NB524_515.out; have hnc27 := NB515_524.out; obtain ⟨hcz28_0, hcz28_1, hcz28_2, hcz28_3, hfz28_0, hfz28_1, hfz28_2, hfz28_3⟩ := sd4 BK524.out; obtain ⟨Ao29, co29, eo29⟩ := Kd.N_slice HO521.out; subst eo29; obtain ⟨HGz30, hgz30⟩ := HI515.out; have hcz30_0 := cellS42_0 HGz30; have hcz30_1 := cellS42_1 HGz30; have hfz30_0 := blk_frozen HGz30 0; have hfz30_1 := blk_frozen HGz30 1; clear HGz30 hgz30) | (go_at_call 8; (with_reducible refine (impl_FormatCond.calls k t516 t517 t518 _ _ t519 t525 _ ?side1 ?side2 A20.out (HTab.out.below sqh)).mono ?_); (case side1 => refine (Kd.N_reads' (e := 27) (base := w.heap.size) (ok := fun k_ => (((w.heap.size ≤ k_) ∧ (k_ ≠ gb512 ∧ k_ ≠ g515)) ∧ k_ ≠ gb524)) (n := t519.length) (c := co29) ?_).2.2; exact z6_5); (case side2 => exact (Kd.N_reads' HO521.out).2.1); rintro e w31 ⟨rfl, hb⟩; replace HO521 := Aside0.mk (Kd.N_below z6_5 hb); replace BK512 := Aside0.mk (blk_below (g := gb512) (o := .cells #[.int .i64 0, .int .i64 0, .int .i64 0, .slice none 0 0] 27 (0, 0)) (bp BK512) hb); replace BK524 := Aside0.mk (blk_below (g := gb524) (o := .cells #[.int .i64 t516, .int .i64 t517, .int .i64 t518, .slice Ao29 t519.length co29] 27 (0, 0)) (bp BK524) hb); replace HB := Aside0.mk (below_step z6_8 hb); replace HI515 := Aside0.mk (IsS42.below (show IsS42 w ((((w25.setCell ⟨gb524, 0, none⟩ (.int .i64 t516)).setCell ⟨gb524, 1, none⟩ (.int .i64 t517)).setCell ⟨gb524, 2, none⟩ (.int .i64 t518)).setCell ⟨gb524, 3, none⟩ (.slice Ao29 t519.length co29)) g515 t522 false from by repeat (first | (with_reducible first | exact HI515.out | apply IsS42.alloc | apply IsS42.drewN | apply IsS42.drew | apply IsS42.set_0 | apply IsS42.set_1 | refine IsS42.far ?_ NB515_512.out _ | refine IsS42.far ?_ NB515_524.out _) | exact HI515.out)) hb); (try clear hb); obtain ⟨hcz32_0, hcz32_1, hcz32_2, hcz32_3, hfz32_0, hfz32_1, hfz32_2, hfz32_3⟩ := sd4 BK524.out; have hnb33 := NB512_515.out; have hnc33 := NB515_512.out; obtain ⟨hcz34_0, hcz34_1, hcz34_2, hcz34_3, hfz34_0, hfz34_1, hfz34_2, hfz34_3⟩ := sd4 BK512.out))
     refine bodyPost_ret (results_ct rfl _ _ gb512 27 #[.int .i64 t516, .int .i64 t517, .int .i64 t518, .slice Ao29 t519.length co29] (0, 0) _ rfl ?_ Tryd.underlying27 rfl sqk) rfl ?_; exact bp BK512
     exact ⟨_, sqe, by (with_reducible repeat (first | apply Kd.N_alloc | apply Kd.N_drewN | apply Kd.N_drew)); exact Kd.N_mono (Kd.N_far (p := ⟨gb512, 3, none⟩) (Kd.N_far (p := ⟨gb512, 2, none⟩) (Kd.N_far (p := ⟨gb512, 1, none⟩) (Kd.N_far (p := ⟨gb512, 0, none⟩) (Kd.N_mono HO521.out (fun k_ hk => (⟨hk, hk.1.2.1⟩ : _ ∧ k_ ≠ gb512))) (fun _ hk => hk.2) (.int .i64 t516)) (fun _ hk => hk.2) (.int .i64 t517)) (fun _ hk => hk.2) (.int .i64 t518)) (fun _ hk => hk.2) (.slice Ao29 t519.length co29)) (fun _ hk => hk.1.1.1), by repeat (first | (with_reducible first | exact HB.out | apply below_alloc | apply pw_below_drewN | apply below_drew1 | refine below_set ?_ (IsS42.ge HI515.out) | refine below_set ?_ GE512.out | refine below_set ?_ GE524.out) | exact HB.out)⟩
    ·rw [if_neg c21] at H
     have c21b0 : (t525.toList == a0.toList) = false := beq_eq_false_iff_ne.mpr c21
     have c21b1 : (t525.toList != a0.toList) = true := bne_iff_ne.mpr c21
     simp only [Option.some.injEq, Prod.mk.injEq] at H
     obtain ⟨rfl, rfl, rfl, rfl, rfl⟩ := H
     go_enter Tryd.func6, Tryd.ntmps6
     go_wp2_with (first | ((with_reducible refine gate_dst (N := 2) rfl ?_); refine bx (N := 2) (cs := #[.int .i64 0, .int .i64 0, .int .i64 0, .slice none 0 0]) (t := 27) ?_; intro gb512 hg w35 hbox hb; have BK512 := Aside0.mk (hbox); have GW512 := Aside0.mk ((z6_7 : w.heap.size ≤ gb512)); have GE512 := Aside0.mk ((z6_7 : w.heap.size ≤ gb512)); replace HB := Aside0.mk (below_step sqh hb); clear hb hbox hg) | ((with_reducible refine gate_dst (N := 12) rfl ?_); refine bx (N := 12) (cs := #[.string a0, .bool false]) (t := 42) ?_; intro g515 hg w36 hbox hb2; have hgw := ((by rw [hg]; exact (below_size sqh)) : w.heap.size ≤ g515); have hb := below_step sqh hb2; have hi : IsS42 w w36 g515 a0 false := ⟨hbox, hgw⟩; clear hbox hg hgw; replace HB := Aside0.mk (hb); have HI515 := Aside0.mk (hi); have NB515_512 := Aside0.mk (IsS42.ne_blk hi (blk_below (bo BK512) hb2) (by decide)); have NB512_515 := Aside0.mk (Ne.symm (IsS42.ne_blk hi (blk_below (bo BK512) hb2) (by decide))); replace BK512 := Aside0.mk (blk_below (bo BK512) hb2); (try clear hb2)) | ((with_reducible refine gate_callee (f := 17) rfl ?_); refine goesL_ (some 14) rfl rfl Tryd.func17 sqk rfl #[.pointer (some ⟨g515, 0, none⟩)] rfl sqm ?_; (with_reducible refine (impl_condReader_cond.calls k g515 a0 false t516 t517 t518 t519 t522 false w _ ?side1 ?side2 A6.out HTab.out).mono ?_); (case side1 => repeat (first | (with_reducible first | exact HI515.out | apply IsS42.alloc | apply IsS42.drewN | apply IsS42.drew | apply IsS42.set_0 | apply IsS42.set_1 | refine IsS42.far ?_ NB515_512.out _) | exact HI515.out)); (case side2 => exact z6_0); rintro e w37 ⟨v520, rfl, ho0, hi, hb, hk⟩; refine ⟨_, rfl, ?_⟩; have HO521 := Aside0.mk (Kd.N_lower (Kd.N_mono (ok' := fun k_ => (w.heap.size ≤ k_) ∧ k_ ≠ gb512 ∧ k_ ≠ g515) ho0 (fun k_ hk_ => ⟨(Nat.le_trans (below_size z6_0) hk_), (Kd.freshB (bo BK512) k_ hk_), (IsS42.fresh z6_1 k_ hk_)⟩)) (below_size z6_0)); replace BK512 := Aside0.mk (KeepBut.blk hk (g' := gb512) (o := .cells #[.int .i64 0, .int .i64 0, .int .i64 0, .slice none 0 0] 27 (0, 0)) (sqb BK512.out) NB512_515.out (by simp)); replace HB := Aside0.mk (hb); replace HI515 := Aside0.mk (hi); (try clear hb); (try clear hk); (try clear hi); (try clear ho0)) | ((with_reducible refine gate_dst (N := 5) rfl ?_); refine bx (N := 5) (cs := #[.int .i64 0, .int .i64 0, .int .i64 0, .slice none 0 0]) (t := 27) ?_; intro gb524 hg w38 hbox hb; replace HO521 := Aside0.mk (Kd.N_below (Kd.N_elderB z6_6 gb524 (Nat.le_of_eq hg.symm)) hb); have BK524 := Aside0.mk (hbox); have GW524 := Aside0.mk ((z6_9 : w.heap.size ≤ gb524)); have GE524 := Aside0.mk ((z6_9 : w.heap.size ≤ gb524)); replace HB := Aside0.mk (below_step z6_0 hb); have NB512_524 := Aside0.mk ((by rw [hg]; exact Nat.ne_of_lt (blk_lt (bo BK512)) : gb512 ≠ gb524)); have NB524_512 := Aside0.mk ((by rw [hg]; exact Nat.ne_of_gt (blk_lt (bo BK512)) : gb524 ≠ gb512)); replace BK512 := Aside0.mk (blk_below (bo BK512) hb); have NB515_524 := Aside0.mk ((z6_2 : g515 ≠ gb524)); have NB524_515 := Aside0.mk ((z6_3 : gb524 ≠ g515)); replace HI515 := Aside0.mk (IsS42.below z6_1 hb); clear hb hbox hg; have hnb39 := NB524_512.out; have hnc39 := NB512_524.out; have hnb40 := NB524_515.out; have hnc40 := NB515_524.out; obtain ⟨hcz41_0, hcz41_1, hcz41_2, hcz41_3, hfz41_0, hfz41_1, hfz41_2, hfz41_3⟩ := sd4 BK524.out; obtain ⟨Ao42, co42, eo42⟩ := Kd.N_slice HO521.out; subst eo42; obtain ⟨HGz43, hgz43⟩ := HI515.out; have hcz43_0 := cellS42_0 HGz43; have hcz43_1 := cellS42_1 HGz43; have hfz43_0 := blk_frozen HGz43 0; have hfz43_1 := blk_frozen HGz43 1; clear HGz43 hgz43) | (go_at_call 8; (with_reducible refine (impl_FormatCond.calls k t516 t517 t518 _ _ t519 t525 _ ?side1 ?side2 A20.out (HTab.out.below sqh)).mono ?_); (case side1 => refine (Kd.N_reads' (e := 27) (base := w.heap.size) (ok := fun k_ => (((w.heap.size ≤ k_) ∧ (k_ ≠ gb512 ∧ k_ ≠ g515)) ∧ k_ ≠ gb524)) (n := t519.length) (c := co42) ?_).2.2; exact z6_4); (case side2 => exact (Kd.N_reads' HO521.out).2.1); rintro e w44 ⟨rfl, hb⟩; replace HO521 := Aside0.mk (Kd.N_below z6_4 hb); replace BK512 := Aside0.mk (blk_below (g := gb512) (o := .cells #[.int .i64 0, .int .i64 0, .int .i64 0, .slice none 0 0] 27 (0, 0)) (bp BK512) hb); replace BK524 := Aside0.mk (blk_below (g := gb524) (o := .cells #[.int .i64 t516, .int .i64 t517, .int .i64 t518, .slice Ao42 t519.length co42] 27 (0, 0)) (bp BK524) hb); replace HB := Aside0.mk (below_step z6_8 hb); replace HI515 := Aside0.mk (IsS42.below (show IsS42 w ((((w38.setCell ⟨gb524, 0, none⟩ (.int .i64 t516)).setCell ⟨gb524, 1, none⟩ (.int .i64 t517)).setCell ⟨gb524, 2, none⟩ (.int .i64 t518)).setCell ⟨gb524, 3, none⟩ (.slice Ao42 t519.length co42)) g515 t522 false from by repeat (first | (with_reducible first | exact HI515.out | apply IsS42.alloc | apply IsS42.drewN | apply IsS42.drew | apply IsS42.set_0 | apply IsS42.set_1 | refine IsS42.far ?_ NB515_512.out _ | refine IsS42.far ?_ NB515_524.out _) | exact HI515.out)) hb); (try clear hb); have hnb45 := NB512_515.out; have hnc45 := NB515_512.out; obtain ⟨hcz46_0, hcz46_1, hcz46_2, hcz46_3, hfz46_0, hfz46_1, hfz46_2, hfz46_3⟩ := sd4 BK512.out))
     refine bodyPost_ret (results_ct rfl _ _ gb512 27 #[.int .i64 0, .int .i64 0, .int .i64 0, .slice none 0 0] (0, 0) _ rfl ?_ Tryd.underlying27 rfl sqk) rfl ?_; exact bp BK512
     exact ⟨_, sqe, by first | exact Kd.R_nil _ _ _ _ _ | exact Kd.N_nil _ _ _ _ _ | exact Kd.V_nil _ _ _ _ _ | exact Kd.Q_nil _ _ _ _ _ | exact Kd.S_nil _ _ _ _ _, by repeat (first | (with_reducible first | exact HB.out | apply below_alloc | apply pw_below_drewN | apply below_drew1 | refine below_set ?_ (IsS42.ge HI515.out) | refine below_set ?_ GE512.out | refine below_set ?_ GE524.out) | exact HB.out)⟩
   ·rw [if_neg c19] at H
    have c19b0 : (t522.toList == ([] : List UInt8)) = false := beq_eq_false_iff_ne.mpr c19
    have c19b1 : (t522.toList != ([] : List UInt8)) = true := bne_iff_ne.mpr c19
    simp only [Option.some.injEq, Prod.mk.injEq] at H
    obtain ⟨rfl, rfl, rfl, rfl, rfl⟩ := H
    go_enter Tryd.func6, Tryd.ntmps6
    go_wp2_with (first | ((with_reducible refine gate_dst (N := 2) rfl ?_); refine bx (N := 2) (cs := #[.int .i64 0, .int .i64 0, .int .i64 0, .slice none 0 0]) (t := 27) ?_; intro gb512 hg w47 hbox hb; have BK512 := Aside0.mk (hbox); have GW512 := Aside0.mk ((z6_7 : w.heap.size ≤ gb512)); have GE512 := Aside0.mk ((z6_7 : w.heap.size ≤ gb512)); replace HB := Aside0.mk (below_step sqh hb); clear hb hbox hg) | ((with_reducible refine gate_dst (N := 12) rfl ?_); refine bx (N := 12) (cs := #[.string a0, .bool false]) (t := 42) ?_; intro g515 hg w48 hbox hb2; have hgw := ((by rw [hg]; exact (below_size sqh)) : w.heap.size ≤ g515); have hb := below_step sqh hb2; have hi : IsS42 w w48 g515 a0 false := ⟨hbox, hgw⟩; clear hbox hg hgw; replace HB := Aside0.mk (hb); have HI515 := Aside0.mk (hi); have NB515_512 := Aside0.mk (IsS42.ne_blk hi (blk_below (bo BK512) hb2) (by decide)); have NB512_515 := Aside0.mk (Ne.symm (IsS42.ne_blk hi (blk_below (bo BK512) hb2) (by decide))); replace BK512 := Aside0.mk (blk_below (bo BK512) hb2); (try clear hb2)) | ((with_reducible refine gate_callee (f := 17) rfl ?_); refine goesL_ (some 14) rfl rfl Tryd.func17 sqk rfl #[.pointer (some ⟨g515, 0, none⟩)] rfl sqm ?_; (with_reducible refine (impl_condReader_cond.calls k g515 a0 false t516 t517 t518 t519 t522 false w _ ?side1 ?side2 A6.out HTab.out).mono ?_); (case side1 => repeat (first | (with_reducible first | exact HI515.out | apply IsS42.alloc | apply IsS42.drewN | apply IsS42.drew | apply IsS42.set_0 | apply IsS42.set_1 | refine IsS42.far ?_ NB515_512.out _) | exact HI515.out)); (case side2 => exact z6_0); rintro e w49 ⟨v520, rfl, ho0, hi, hb, hk⟩; refine ⟨_, rfl, ?_⟩; have HO521 := Aside0.mk (Kd.N_lower (Kd.N_mono (ok' := fun k_ => (w.heap.size ≤ k_) ∧ k_ ≠ gb512 ∧ k_ ≠ g515) ho0 (fun k_ hk_ => ⟨(Nat.le_trans (below_size z6_0) hk_), (Kd.freshB (bo BK512) k_ hk_), (IsS42.fresh z6_1 k_ hk_)⟩)) (below_size z6_0)); replace BK512 := Aside0.mk (KeepBut.blk hk (g' := gb512) (o := .cells #[.int .i64 0, .int .i64 0, .int .i64 0, .slice none 0 0] 27 (0, 0)) (sqb BK512.out) NB512_515.out (by simp)); replace HB := Aside0.mk (hb); replace HI515 := Aside0.mk (hi); (try clear hb); (try clear hk); (try clear hi); (try clear ho0)) | ((with_reducible refine gate_dst (N := 5) rfl ?_); refine bx (N := 5) (cs := #[.int .i64 0, .int .i64 0, .int .i64 0, .slice none 0 0]) (t := 27) ?_; intro gb524 hg w50 hbox hb; replace HO521 := Aside0.mk (Kd.N_below (Kd.N_elderB z6_6 gb524 (Nat.le_of_eq hg.symm)) hb); have BK524 := Aside0.mk (hbox); have GW524 := Aside0.mk ((z6_9 : w.heap.size ≤ gb524)); have GE524 := Aside0.mk ((z6_9 : w.heap.size ≤ gb524)); replace HB := Aside0.mk (below_step z6_0 hb); have NB512_524 := Aside0.mk ((by rw [hg]; exact Nat.ne_of_lt (blk_lt (bo BK512)) : gb512 ≠ gb524)); have NB524_512 := Aside0.mk ((by rw [hg]; exact Nat.ne_of_gt (blk_lt (bo BK512)) : gb524 ≠ gb512)); replace BK512 := Aside0.mk (blk_below (bo BK512) hb); have NB515_524 := Aside0.mk ((z6_2 : g515 ≠ gb524)); have NB524_515 := Aside0.mk ((z6_3 : gb524 ≠ g515)); replace HI515 := Aside0.mk (IsS42.below z6_1 hb); clear hb hbox hg; have hnb51 := NB524_512.out; have hnc51 := NB512_524.out; have hnb52 := NB524_515.out; have hnc52 := NB515_524.out; obtain ⟨hcz53_0, hcz53_1, hcz53_2, hcz53_3, hfz53_0, hfz53_1, hfz53_2, hfz53_3⟩ := sd4 BK524.out; obtain ⟨Ao54, co54, eo54⟩ := Kd.N_slice HO521.out; subst eo54; obtain ⟨HGz55, hgz55⟩ := HI515.out; have hcz55_0 := cellS42_0 HGz55; have hcz55_1 := cellS42_1 HGz55; have hfz55_0 := blk_frozen HGz55 0; have hfz55_1 := blk_frozen HGz55 1; clear HGz55 hgz55; have hnb56 := NB512_515.out; have hnc56 := NB515_512.out; obtain ⟨hcz57_0, hcz57_1, hcz57_2, hcz57_3, hfz57_0, hfz57_1, hfz57_2, hfz57_3⟩ := sd4 BK512.out))
    refine bodyPost_ret (results_ct rfl _ _ gb512 27 #[.int .i64 0, .int .i64 0, .int .i64 0, .slice none 0 0] (0, 0) _ rfl ?_ Tryd.underlying27 rfl sqk) rfl ?_; exact bp BK512
    exact ⟨_, sqe, by first | exact Kd.R_nil _ _ _ _ _ | exact Kd.N_nil _ _ _ _ _ | exact Kd.V_nil _ _ _ _ _ | exact Kd.Q_nil _ _ _ _ _ | exact Kd.S_nil _ _ _ _ _, by repeat (first | (with_reducible first | exact HB.out | apply below_alloc | apply pw_below_drewN | apply below_drew1 | refine below_set ?_ (IsS42.ge HI515.out) | refine below_set ?_ GE512.out | refine below_set ?_ GE524.out) | exact HB.out)⟩

/-! ### spec_SizeOf: function 37 -/
mutual
def spec_SizeOf.l0 : Nat → Int → Int → Int → Int → Int → List (S27) → Option (Int)
 | 0, _, _, _, _, _, _ => none
 | k + 1, x3, x4, x527000, x527001, x527002, x527003 => if x4 < (x527003.length : Int) then (if 0 ≤ x4 then ((spec_SizeOf.f k ((rd_T27 x527003 x4).f0) ((rd_T27 x527003 x4).f1) ((rd_T27 x527003 x4).f2) ((rd_T27 x527003 x4).f3)).bind fun t528 => (spec_SizeOf.l0 k (wrap64 (x3 + t528)) (wrap64 (x4 + 1)) x527000 x527001 x527002 x527003)) else (none)) else (some x3)
def spec_SizeOf.f : Nat → Int → Int → Int → List (S27) → Option (Int)
 | 0, _, _, _, _ => none
 | k + 1, a0_0, a0_1, a0_2, l0_3 => spec_SizeOf.l0 k 1 0 a0_0 a0_1 a0_2 l0_3
end
set_option maxHeartbeats 8000000 in
set_option maxRecDepth 100000 in
theorem spec_SizeOf.calls (k : Nat) : ∀ (a0_0 : Int) (a0_1 : Int) (a0_2 : Int) (A0_3 : Option Addr) (c0_3 : Nat) (l0_3 : List (S27)) (r : Int) (w : World) (hr0_3 : Kd.C k27 w A0_3 l0_3.length l0_3) (hc0_3 : l0_3.length ≤ c0_3) (h : spec_SizeOf.f k a0_0 a0_1 a0_2 l0_3 = some r),
  Calls Tryd.prog 37 #[.agg #[.int .i64 a0_0, .int .i64 a0_1, .int .i64 a0_2, .slice A0_3 l0_3.length c0_3]] w fun e w' => e = .returned (.int .i64 r) ∧ Below w.heap.size w w' := by
 induction k using Nat.strongRecOn with
 | _ k ih =>
 intro a0_0 a0_1 a0_2 A0_3 c0_3 l0_3 r w hr0_3 hc0_3 h
 cases k with
 | zero => exact absurd h (by simp [spec_SizeOf.f])
 | succ k =>
 simp only [spec_SizeOf.f] at h
 have hu27 := Tryd.underlying27
 have HR0_3 := Aside0.mk hr0_3
 have HC0_3 := Aside0.mk hc0_3
 clear hr0_3 hc0_3
 have HB := Aside0.mk (Below.refl w.heap.size w)
 have H : (spec_SizeOf.l0 k 1 0 a0_0 a0_1 a0_2 l0_3) = some r := h
 clear h
 have H' := Aside0.mk H
 clear H
 go_enter Tryd.func37, Tryd.ntmps37
 go_wp2_with (first | ((with_reducible refine gate_dst (N := 1) rfl ?_); refine bx (N := 1) (cs := #[.int .i64 a0_0, .int .i64 a0_1, .int .i64 a0_2, .slice A0_3 l0_3.length c0_3]) (t := 27) ?_; intro gb526 hg w2 hbox hb; have BK526 := Aside0.mk (hbox); have GW526 := Aside0.mk ((by rw [hg]; exact (below_size sqh) : w.heap.size ≤ gb526)); have GE526 := Aside0.mk ((by rw [hg]; exact (below_size sqh) : w.heap.size ≤ gb526)); replace HB := Aside0.mk (below_step sqh hb); clear hb hbox hg))
 go_loopg [3, 4] k (fun kq v3 v4 w' => ∃ (x3_1 : Int) (x4_1 : Int), v3 = .int .i64 x3_1 ∧ v4 = .int .i64 x4_1 ∧ Aside0 (spec_SizeOf.l0 kq x3_1 x4_1 a0_0 a0_1 a0_2 l0_3 = some r) ∧ Aside0 (kq ≤ k) ∧ Aside0 (w'.heap[gb526]? = some (.cells #[.int .i64 a0_0, .int .i64 a0_1, .int .i64 a0_2, (.slice A0_3 l0_3.length c0_3)] 27 (0, 0))) ∧ Aside0 (Below w.heap.size w w'))
 case atStart => exact ⟨(1), (0), sqr, sqr, H', ⟨Nat.le_refl _⟩, ⟨sqb BK526.out⟩, ⟨sqh⟩⟩
 case round =>
  clear H'; try clear p2
  obtain ⟨x3_1, x4_1, rfl, rfl, HA, HK1, BK526, HB⟩ := hrel
  cases gk with
  | zero => exact absurd HA.out (by simp [spec_SizeOf.l0])
  | succ k1 =>
   have H := HA.out
   clear HA
   simp only [spec_SizeOf.l0] at H
   by_cases c3 : x4_1 < (l0_3.length : Int)
   ·rw [if_pos c3] at H
    have c3b0 : decide (x4_1 < (l0_3.length : Int)) = true := decide_eq_true c3
    clear c3
    by_cases c4 : 0 ≤ x4_1
    ·rw [if_pos c4] at H
     have c4b0 : decide (0 ≤ x4_1) = true := decide_eq_true c4
     clear c4
     obtain ⟨t528, A5, H⟩ := bA H
     have H' := Aside0.mk H
     clear H
     obtain ⟨hcz6_0, hcz6_1, hcz6_2, hcz6_3, hfz6_0, hfz6_1, hfz6_2, hfz6_3⟩ := sd4 BK526.out
     have p527 : 0 ≤ (x4_1 : Int) := of_decide_eq_true sqs
     have q527 : x4_1 < (l0_3.length : Int) := of_decide_eq_true sqs
     obtain ⟨ad527, A527_3, c527_3, e527, hx527_0, hx527_1, hx527_2, hx527_3, hl527_3, hi527_3⟩ := at_T27 HR0_3.out x4_1 p527 q527
     cases e527
     replace hx527_0 := cl HB hx527_0; replace hx527_1 := cl HB hx527_1; replace hx527_2 := cl HB hx527_2; replace hx527_3 := cl HB hx527_3
     have HR527_3 := Aside0.mk hi527_3
     have HC527_3 := Aside0.mk hl527_3
     clear hi527_3 hl527_3
     replace p527 := eq_true p527
     replace q527 := eq_true q527
     go_wp2_with (first | ((with_reducible refine gate_callee (f := 37) rfl ?_); refine goesL_ (some 18) rfl rfl Tryd.func37 sqk rfl #[.agg #[.int .i64 ((rd_T27 l0_3 x4_1).f0), .int .i64 ((rd_T27 l0_3 x4_1).f1), .int .i64 ((rd_T27 l0_3 x4_1).f2), .slice A527_3 ((rd_T27 l0_3 x4_1).f3).length c527_3]] rfl sqm ?_; (with_reducible refine (ih k1 (by have := HK1.out; omega) ((rd_T27 l0_3 x4_1).f0) ((rd_T27 l0_3 x4_1).f1) ((rd_T27 l0_3 x4_1).f2) _ _ ((rd_T27 l0_3 x4_1).f3) t528 _ ?side1 ?side2 A5.out).mono ?_); (case side1 => exact sqn (Kd.C_below HR527_3.out HB.out)); (case side2 => exact HC527_3.out); rintro e w7 ⟨rfl, hb⟩; refine ⟨_, rfl, ?_⟩; replace BK526 := Aside0.mk (blk_below (bo BK526) hb); replace HB := Aside0.mk (below_step sqh hb); (try clear hb)))
     go_roundg k1
     case measure => have := HK1.out; omega
     case rel => exact ⟨(wrap64 (x3_1 + t528)), (wrap64 (x4_1 + 1)), sqr, sqr, H', ⟨by have := HK1.out; omega⟩, ⟨sqb BK526.out⟩, ⟨sqh⟩⟩
    ·rw [if_neg c4] at H
     exact absurd H (by simp)
   ·rw [if_neg c3] at H
    have c3b0 : decide (x4_1 < (l0_3.length : Int)) = false := decide_eq_false c3
    clear c3
    obtain rfl := Option.some.inj H
    obtain ⟨hcz8_0, hcz8_1, hcz8_2, hcz8_3, hfz8_0, hfz8_1, hfz8_2, hfz8_3⟩ := sd4 BK526.out
    go_wp2
    go_ret
    exact ⟨sqe, sqh⟩

/-! ### spec_DrawIsCond: function 18 -/
def spec_DrawIsCond.l0 : Nat → Int → Int → Int → List (S27) → Option (Int × Int × Int × (List (S27)))
 | 0, _, _, _, _ => none
 | k + 1, x546000, x546001, x546002, x546003 => (spec_SizeOf.f k x546000 x546001 x546002 x546003).bind fun t546 => (if t546 < 14 then ((spec_CondNot.f k x546000 x546001 x546002 x546003).bind fun bt547 => (spec_DrawIsCond.l0 k bt547.1 bt547.2.1 bt547.2.2.1 bt547.2.2.2)) else ((spec_CondNot.f k x546000 x546001 x546002 x546003).bind fun bt553 => (some (bt553.1, bt553.2.1, bt553.2.2.1, bt553.2.2.2))))
def spec_DrawIsCond.f (k : Nat) (l0 : List Int) : Option (Int × Int × Int × (List (S27))) := (spec_l1New.f k l0).bind fun bt530 => ((spec_l1Once.f bt530.1 bt530.2.1 bt530.2.2 8).bind fun bt534 => (if bt534.1 = true then ((spec_l15Cond.f k bt530.1 bt534.2.1 bt534.2.2 2).bind fun bt537 => (spec_DrawIsCond.l0 k bt537.1 bt537.2.1 bt537.2.2.1 bt537.2.2.2.1)) else ((spec_l15Any.f k bt530.1 bt534.2.1 bt534.2.2).bind fun bt559 => (some (bt559.1, bt559.2.1, bt559.2.2.1, bt559.2.2.2.1)))))
theorem z18_0 {Q : Prop} (g : Q := by repeat (first | (with_reducible first | exact HB.out | apply below_alloc | apply pw_below_drewN | apply below_drew1 | refine below_set ?_ (IsS48.ge HI533.out) | refine below_set ?_ GE529.out) | exact HB.out)) : Q := g
theorem z18_1 {Q : Prop} (g : Q := by (with_reducible repeat (first | apply Kd.N_alloc | apply Kd.N_drewN | apply Kd.N_drew)); exact HO_546003.out) : Q := g
theorem z18_2 {Q : Prop} (g : Q := by repeat (first | (with_reducible first | exact HI533.out | apply IsS48.alloc | apply IsS48.drewN | apply IsS48.drew | apply IsS48.set_1 | apply IsS48.set_2 | refine IsS48.far ?_ NB533_529.out _) | exact HI533.out)) : Q := g
set_option maxHeartbeats 8000000 in
set_option maxRecDepth 100000 in
theorem spec_DrawIsCond.calls (k : Nat) (A0 : Option Addr) (c0 : Nat) (l0 : List Int) (r1 : Int) (r2 : Int) (r3 : Int) (r4 : List (S27)) (w : World) (hr0 : Kd.C (Kd.int .u8) w A0 l0.length l0) (hc0 : l0.length ≤ c0) (h : spec_DrawIsCond.f k l0 = some (r1, r2, r3, r4)) :
  Calls Tryd.prog 18 #[.slice A0 l0.length c0] w fun e w' => ∃ v3_ : Value, e = .returned (.agg #[.int .i64 r1, .int .i64 r2, .int .i64 r3, v3_]) ∧ Kd.N k27 27 w' w.heap.size (fun k_ => (w.heap.size ≤ k_)) v3_ r4 ∧ Below w.heap.size w w' := by
 have hu27 := Tryd.underlying27
 have HR0 := Aside0.mk hr0
 have HC0 := Aside0.mk hc0
 clear hr0 hc0
 have HB := Aside0.mk (Below.refl w.heap.size w)
 have H : ((spec_l1New.f k l0).bind fun bt530 => ((spec_l1Once.f bt530.1 bt530.2.1 bt530.2.2 8).bind fun bt534 => (if bt534.1 = true then ((spec_l15Cond.f k bt530.1 bt534.2.1 bt534.2.2 2).bind fun bt537 => (spec_DrawIsCond.l0 k bt537.1 bt537.2.1 bt537.2.2.1 bt537.2.2.2.1)) else ((spec_l15Any.f k bt530.1 bt534.2.1 bt534.2.2).bind fun bt559 => (some (bt559.1, bt559.2.1, bt559.2.2.1, bt559.2.2.2.1)))))) = some (r1, r2, r3, r4) := h
 clear h
 obtain ⟨⟨t530, t531, t532⟩, A2, H⟩ := bA H
 dsimp only at H
 obtain ⟨⟨t534, t535, t536⟩, A3, H⟩ := bA H
 dsimp only at H
 by_cases c4 : t534 = true
 ·subst c4
  replace H := iT H
  obtain ⟨⟨t537, t538, t539, t540, t543, t544⟩, A5, H⟩ := bA H
  dsimp only at H
  have H' := Aside0.mk H
  clear H
  go_enter Tryd.func18, Tryd.ntmps18
  go_wp2_with (first | ((with_reducible refine gate_dst (N := 2) rfl ?_); refine bx (N := 2) (cs := #[.int .i64 0, .int .i64 0, .int .i64 0, .slice none 0 0]) (t := 27) ?_; intro gb529 hg w6 hbox hb; have BK529 := Aside0.mk (hbox); have GW529 := Aside0.mk ((by rw [hg]; exact (below_size sqh) : w.heap.size ≤ gb529)); have GE529 := Aside0.mk ((by rw [hg]; exact (below_size sqh) : w.heap.size ≤ gb529)); replace HB := Aside0.mk (below_step sqh hb); clear hb hbox hg) | ((with_reducible refine gate_callee (f := 12) rfl ?_); refine goesL_ (some 6) rfl rfl Tryd.func12 sqk rfl #[.slice A0 l0.length c0] rfl sqm ?_; (with_reducible refine (spec_l1New.calls k _ _ l0 t530 t531 t532 w _ ?side1 ?side2 ?side3 A2.out).mono ?_); (case side1 => exact sqh); (case side2 => exact HR0.out); (case side3 => exact HC0.out); rintro e w7 ⟨g533, rfl, hi, hb, hb2⟩; refine ⟨_, rfl, ?_⟩; replace HB := Aside0.mk (hb); have HI533 := Aside0.mk (hi); have NB533_529 := Aside0.mk (IsS48.ne_blk hi (blk_below (bo BK529) hb2) (by decide)); have NB529_533 := Aside0.mk (Ne.symm (IsS48.ne_blk hi (blk_below (bo BK529) hb2) (by decide))); replace BK529 := Aside0.mk (blk_below (bo BK529) hb2); (try clear hb); (try clear hb2); (try clear hi)) | ((with_reducible refine gate_callee (f := 13) rfl ?_); refine goesL_ (some 8) rfl rfl Tryd.func13 sqk rfl #[.pointer (some ⟨g533, 0, none⟩), .int .i64 8] rfl sqm ?_; (with_reducible refine (spec_l1Once.calls g533 t530 t531 t532 8 true t535 t536 w _ ?side1 ?side2 A3.out).mono ?_); (case side1 => repeat (first | (with_reducible first | exact HI533.out | apply IsS48.alloc | apply IsS48.drewN | apply IsS48.drew | apply IsS48.set_1 | apply IsS48.set_2 | refine IsS48.far ?_ NB533_529.out _) | exact HI533.out)); (case side2 => exact z18_0); rintro e w8 ⟨rfl, hi, hb, hk⟩; refine ⟨_, rfl, ?_⟩; replace BK529 := Aside0.mk (KeepBut.blk hk (g' := gb529) (o := .cells #[.int .i64 0, .int .i64 0, .int .i64 0, .slice none 0 0] 27 (0, 0)) (sqb BK529.out) NB529_533.out (by simp)); replace HB := Aside0.mk (hb); replace HI533 := Aside0.mk (hi); (try clear hb); (try clear hk); (try clear hi)) | ((with_reducible refine gate_callee (f := 27) rfl ?_); refine goesL_ (some 10) rfl rfl Tryd.func27 sqk rfl #[.pointer (some ⟨g533, 0, none⟩), .int .i64 2] rfl sqm ?_; (with_reducible refine (spec_l15Cond.calls k g533 t530 t535 t536 2 t537 t538 t539 t540 t543 t544 w _ ?side1 ?side2 A5.out).mono ?_); (case side1 => repeat (first | (with_reducible first | exact HI533.out | apply IsS48.alloc | apply IsS48.drewN | apply IsS48.drew | apply IsS48.set_1 | apply IsS48.set_2 | refine IsS48.far ?_ NB533_529.out _) | exact HI533.out)); (case side2 => exact z18_0); rintro e w9 ⟨v541, rfl, ho0, hi, hb, hk⟩; refine ⟨_, rfl, ?_⟩; have HO542 := Aside0.mk (Kd.N_lower (Kd.N_mono (ok' := fun k_ => (w.heap.size ≤ k_) ∧ k_ ≠ gb529 ∧ k_ ≠ g533) ho0 (fun k_ hk_ => ⟨(Nat.le_trans (below_size z18_0) hk_), (Kd.freshB (bo BK529) k_ hk_), (IsS48.fresh z18_2 k_ hk_)⟩)) (below_size z18_0)); replace BK529 := Aside0.mk (KeepBut.blk hk (g' := gb529) (o := .cells #[.int .i64 0, .int .i64 0, .int .i64 0, .slice none 0 0] 27 (0, 0)) (sqb BK529.out) NB529_533.out (by simp)); replace HB := Aside0.mk (hb); replace HI533 := Aside0.mk (hi); (try clear hb); (try clear hk); (try clear hi); (try clear ho0)) | ((with_reducible refine gate_dst (N := 4) rfl ?_); refine bx (N := 4) (cs := #[.int .i64 0, .int .i64 0, .int .i64 0, .slice none 0 0]) (t := 27) ?_; intro gb545 hg w10 hbox hb; replace HO542 := Aside0.mk (Kd.N_below (Kd.N_elderB (by (with_reducible repeat (first | apply Kd.N_alloc | apply Kd.N_drewN | apply Kd.N_drew)); exact HO542.out) gb545 (Nat.le_of_eq hg.symm)) hb); have BK545 := Aside0.mk (hbox); have GW545 := Aside0.mk ((by rw [hg]; exact (below_size z18_0) : w.heap.size ≤ gb545)); have GE545 := Aside0.mk ((by rw [hg]; exact (below_size z18_0) : w.heap.size ≤ gb545)); replace HB := Aside0.mk (below_step z18_0 hb); have NB529_545 := Aside0.mk ((by rw [hg]; exact Nat.ne_of_lt (blk_lt (bo BK529)) : gb529 ≠ gb545)); have NB545_529 := Aside0.mk ((by rw [hg]; exact Nat.ne_of_gt (blk_lt (bo BK529)) : gb545 ≠ gb529)); replace BK529 := Aside0.mk (blk_below (bo BK529) hb); have NB533_545 := Aside0.mk ((by rw [hg]; exact Nat.ne_of_lt (IsS48.lt (show IsS48 w _ g533 t530 t543 t544 from by repeat (first | (with_reducible first | exact HI533.out | apply IsS48.alloc | apply IsS48.drewN | apply IsS48.drew | apply IsS48.set_1 | apply IsS48.set_2 | refine IsS48.far ?_ NB533_529.out _) | exact HI533.out))) : g533 ≠ gb545)); have NB545_533 := Aside0.mk ((by rw [hg]; exact Nat.ne_of_gt (IsS48.lt (show IsS48 w _ g533 t530 t543 t544 from by repeat (first | (with_reducible first | exact HI533.out | apply IsS48.alloc | apply IsS48.drewN | apply IsS48.drew | apply IsS48.set_1 | apply IsS48.set_2 | refine IsS48.far ?_ NB533_529.out _) | exact HI533.out))) : gb545 ≠ g533)); replace HI533 := Aside0.mk (IsS48.below z18_2 hb); clear hb hbox hg; have hnb11 := NB545_529.out; have hnc11 := NB529_545.out; have hnb12 := NB545_533.out; have hnc12 := NB533_545.out; obtain ⟨hcz13_0, hcz13_1, hcz13_2, hcz13_3, hfz13_0, hfz13_1, hfz13_2, hfz13_3⟩ := sd4 BK545.out; obtain ⟨Ao14, co14, eo14⟩ := Kd.N_slice HO542.out; subst eo14))
  go_loopg [] k (fun kq w' => ∃ (x546000_1 : Int) (x546001_1 : Int) (x546002_1 : Int) (x546003_1 : List (S27)) (u546003 : Value), Aside0 (spec_DrawIsCond.l0 kq x546000_1 x546001_1 x546002_1 x546003_1 = some (r1, r2, r3, r4)) ∧ Aside0 (kq ≤ k) ∧ Aside0 (Kd.N k27 27 w' w.heap.size (fun k_ => (w.heap.size ≤ k_) ∧ k_ ≠ gb529 ∧ k_ ≠ gb545) u546003 x546003_1) ∧ Aside0 (w'.heap[gb529]? = some (.cells #[.int .i64 0, .int .i64 0, .int .i64 0, (.slice none 0 0)] 27 (0, 0))) ∧ Aside0 (w'.heap[gb545]? = some (.cells #[.int .i64 x546000_1, .int .i64 x546001_1, .int .i64 x546002_1, u546003] 27 (0, 0))) ∧ Aside0 (Below w.heap.size w w'))
  case atStart => exact ⟨(t537), (t538), (t539), (t540), (.slice Ao14 t540.length co14), H', ⟨Nat.le_refl _⟩, ⟨by (with_reducible repeat (first | apply Kd.N_alloc | apply Kd.N_drewN | apply Kd.N_drew)); exact Kd.N_mono (Kd.N_far (p := ⟨gb545, 3, none⟩) (Kd.N_far (p := ⟨gb545, 2, none⟩) (Kd.N_far (p := ⟨gb545, 1, none⟩) (Kd.N_far (p := ⟨gb545, 0, none⟩) (Kd.N_mono HO542.out (fun k_ hk => (⟨hk, hk.2⟩ : _ ∧ k_ ≠ gb545))) (fun _ hk => hk.2) (.int .i64 t537)) (fun _ hk => hk.2) (.int .i64 t538)) (fun _ hk => hk.2) (.int .i64 t539)) (fun _ hk => hk.2) (.slice Ao14 t540.length co14)) (fun _ hk => ⟨hk.1.1.1, ⟨hk.1.1.2.1, hk.1.2⟩⟩)⟩, ⟨bp BK529⟩, ⟨bp BK545⟩, ⟨by repeat (first | (with_reducible first | exact HB.out | apply below_alloc | apply pw_below_drewN | apply below_drew1 | refine below_set ?_ (IsS48.ge HI533.out) | refine below_set ?_ GE529.out | refine below_set ?_ GE545.out) | exact HB.out)⟩⟩
  case round =>
   clear H'; try clear c1; try clear c2; try clear p2; try clear c4; try clear c11; try clear c12; try clear c13; try clear hcz13_0; try clear hcz13_1; try clear hcz13_2; try clear hcz13_3; try clear hfz13_0; try clear hfz13_1; try clear hfz13_2; try clear hfz13_3
   obtain ⟨x546000_1, x546001_1, x546002_1, x546003_1, u546003, HA, HK1, HO_546003, BK529, BK545, HB⟩ := hrel
   cases gk with
   | zero => exact absurd HA.out (by simp [spec_DrawIsCond.l0])
   | succ k1 =>
    have H := HA.out
    clear HA
    simp only [spec_DrawIsCond.l0] at H
    obtain ⟨t546, A15, H⟩ := bA H
    by_cases c16 : t546 < 14
    ·rw [if_pos c16] at H
     have c16b0 : decide (t546 < 14) = true := decide_eq_true c16
     clear c16
     obtain ⟨⟨t547, t548, t549, t550⟩, A17, H⟩ := bA H
     dsimp only at H
     have H' := Aside0.mk H
     clear H
     have hnb18 := NB545_529.out
     have hnc18 := NB529_545.out
     obtain ⟨hcz19_0, hcz19_1, hcz19_2, hcz19_3, hfz19_0, hfz19_1, hfz19_2, hfz19_3⟩ := sd4 BK545.out
     obtain ⟨Ao20, co20, eo20⟩ := Kd.N_slice HO_546003.out
     subst eo20
     go_wp2_with (first | ((with_reducible refine gate_callee (f := 37) rfl ?_); refine goesL_ (some 12) rfl rfl Tryd.func37 sqk rfl #[.agg #[.int .i64 x546000_1, .int .i64 x546001_1, .int .i64 x546002_1, .slice Ao20 x546003_1.length co20]] rfl sqm ?_; (with_reducible refine (spec_SizeOf.calls k1 x546000_1 x546001_1 x546002_1 _ _ x546003_1 t546 _ ?side1 ?side2 A15.out).mono ?_); (case side1 => repeat (first | exact (Kd.N_reads' HO_546003.out).2.2 | (with_reducible refine Kd.C_alloc ?_ _) | (with_reducible refine Kd.C_drewN ?_ _) | (with_reducible refine Kd.C_drew ?_))); (case side2 => exact (Kd.N_reads' HO_546003.out).2.1); rintro e w21 ⟨rfl, hb⟩; refine ⟨_, rfl, ?_⟩; replace HO_546003 := Aside0.mk (Kd.N_below z18_1 hb); replace BK529 := Aside0.mk (blk_below (bo BK529) hb); replace BK545 := Aside0.mk (blk_below (bo BK545) hb); replace HB := Aside0.mk (below_step sqh hb); (try clear hb); obtain ⟨hcz22_0, hcz22_1, hcz22_2, hcz22_3, hfz22_0, hfz22_1, hfz22_2, hfz22_3⟩ := sd4 BK545.out) | ((with_reducible refine gate_callee (f := 38) rfl ?_); refine goesL_ (some 15) rfl rfl Tryd.func38 sqk rfl #[.agg #[.int .i64 x546000_1, .int .i64 x546001_1, .int .i64 x546002_1, .slice Ao20 x546003_1.length co20]] rfl sqm ?_; (with_reducible refine (spec_CondNot.calls k1 x546000_1 x546001_1 x546002_1 _ _ x546003_1 t547 t548 t549 t550 _ ?side1 ?side2 A17.out).mono ?_); (case side1 => repeat (first | exact (Kd.N_reads' HO_546003.out).2.2 | (with_reducible refine Kd.C_alloc ?_ _) | (with_reducible refine Kd.C_drewN ?_ _) | (with_reducible refine Kd.C_drew ?_))); (case side2 => exact (Kd.N_reads' HO_546003.out).2.1); rintro e w23 ⟨v551, rfl, ho0, hb⟩; refine ⟨_, rfl, ?_⟩; have HO552 := Aside0.mk (Kd.N_lower (Kd.N_mono (ok' := fun k_ => (w.heap.size ≤ k_) ∧ some k_ ≠ (.slice Ao20 x546003_1.length co20 : Value).ownBlock ∧ k_ ≠ gb529 ∧ k_ ≠ gb545) ho0 (fun k_ hk_ => ⟨(Nat.le_trans (below_size sqh) hk_), (Kd.fresh' (Kd.N_lt z18_1) k_ hk_), (Kd.freshB (bo BK529) k_ hk_), (Kd.freshB (bo BK545) k_ hk_)⟩)) (below_size sqh)); replace HO_546003 := Aside0.mk (Kd.N_elder' z18_1 (Kd.N_base ho0) hb); replace BK529 := Aside0.mk (blk_below (bo BK529) hb); replace BK545 := Aside0.mk (blk_below (bo BK545) hb); replace HB := Aside0.mk (below_step sqh hb); (try clear hb); (try clear ho0); obtain ⟨hcz24_0, hcz24_1, hcz24_2, hcz24_3, hfz24_0, hfz24_1, hfz24_2, hfz24_3⟩ := sd4 BK545.out; obtain ⟨Ao25, co25, eo25⟩ := Kd.N_slice HO552.out; subst eo25))
     go_roundg k1
     case measure => have := HK1.out; omega
     case rel => exact ⟨(t547), (t548), (t549), (t550), (.slice Ao25 t550.length co25), H', ⟨by have := HK1.out; omega⟩, ⟨by (with_reducible repeat (first | apply Kd.N_alloc | apply Kd.N_drewN | apply Kd.N_drew)); exact Kd.N_mono (Kd.N_far (p := ⟨gb545, 3, none⟩) (Kd.N_far (p := ⟨gb545, 2, none⟩) (Kd.N_far (p := ⟨gb545, 1, none⟩) (Kd.N_far (p := ⟨gb545, 0, none⟩) (Kd.N_mono HO552.out (fun k_ hk => (⟨hk, hk.2.2.2⟩ : _ ∧ k_ ≠ gb545))) (fun _ hk => hk.2) (.int .i64 t547)) (fun _ hk => hk.2) (.int .i64 t548)) (fun _ hk => hk.2) (.int .i64 t549)) (fun _ hk => hk.2) (.slice Ao25 t550.length co25)) (fun _ hk => ⟨hk.1.1, ⟨hk.1.2.2.1, hk.1.2.2.2⟩⟩)⟩, ⟨bp BK529⟩, ⟨bp BK545⟩, ⟨sqh⟩⟩
    ·rw [if_neg c16] at H
     have c16b0 : decide (t546 < 14) = false := decide_eq_false c16
     clear c16
     obtain ⟨⟨t553, t554, t555, t556⟩, A26, H⟩ := bA H
     dsimp only at H
     simp only [Option.some.injEq, Prod.mk.injEq] at H
     obtain ⟨rfl, rfl, rfl, rfl⟩ := H
     have hnb27 := NB545_529.out
     have hnc27 := NB529_545.out
     obtain ⟨hcz28_0, hcz28_1, hcz28_2, hcz28_3, hfz28_0, hfz28_1, hfz28_2, hfz28_3⟩ := sd4 BK545.out
     obtain ⟨Ao29, co29, eo29⟩ := Kd.N_slice HO_546003.out
     subst eo29
     go_wp2_with (first | ((with_reducible refine gate_callee (f := 37) rfl ?_); refine goesL_ (some 12) rfl rfl Tryd.func37 sqk rfl #[.agg #[.int .i64 x546000_1, .int .i64 x546001_1, .int .i64 x546002_1, .slice Ao29 x546003_1.length co29]] rfl sqm ?_; (with_reducible refine (spec_SizeOf.calls k1 x546000_1 x546001_1 x546002_1 _ _ x546003_1 t546 _ ?side1 ?side2 A15.out).mono ?_); (case side1 => repeat (first | exact (Kd.N_reads' HO_546003.out).2.2 | (with_reducible refine Kd.C_alloc ?_ _) | (with_reducible refine Kd.C_drewN ?_ _) | (with_reducible refine Kd.C_drew ?_))); (case side2 => exact (Kd.N_reads' HO_546003.out).2.1); rintro e w30 ⟨rfl, hb⟩; refine ⟨_, rfl, ?_⟩; replace HO_546003 := Aside0.mk (Kd.N_below z18_1 hb); replace BK529 := Aside0.mk (blk_below (bo BK529) hb); replace BK545 := Aside0.mk (blk_below (bo BK545) hb); replace HB := Aside0.mk (below_step sqh hb); (try clear hb); obtain ⟨hcz31_0, hcz31_1, hcz31_2, hcz31_3, hfz31_0, hfz31_1, hfz31_2, hfz31_3⟩ := sd4 BK545.out) | ((with_reducible refine gate_callee (f := 38) rfl ?_); refine goesL_ (some 17) rfl rfl Tryd.func38 sqk rfl #[.agg #[.int .i64 x546000_1, .int .i64 x546001_1, .int .i64 x546002_1, .slice Ao29 x546003_1.length co29]] rfl sqm ?_; (with_reducible refine (spec_CondNot.calls k1 x546000_1 x546001_1 x546002_1 _ _ x546003_1 t553 t554 t555 t556 _ ?side1 ?side2 A26.out).mono ?_); (case side1 => repeat (first | exact (Kd.N_reads' HO_546003.out).2.2 | (with_reducible refine Kd.C_alloc ?_ _) | (with_reducible refine Kd.C_drewN ?_ _) | (with_reducible refine Kd.C_drew ?_))); (case side2 => exact (Kd.N_reads' HO_546003.out).2.1); rintro e w32 ⟨v557, rfl, ho0, hb⟩; refine ⟨_, rfl, ?_⟩; have HO558 := Aside0.mk (Kd.N_lower (Kd.N_mono (ok' := fun k_ => (w.heap.size ≤ k_) ∧ some k_ ≠ (.slice Ao29 x546003_1.length co29 : Value).ownBlock ∧ k_ ≠ gb529 ∧ k_ ≠ gb545) ho0 (fun k_ hk_ => ⟨(Nat.le_trans (below_size sqh) hk_), (Kd.fresh' (Kd.N_lt z18_1) k_ hk_), (Kd.freshB (bo BK529) k_ hk_), (Kd.freshB (bo BK545) k_ hk_)⟩)) (below_size sqh)); replace HO_546003 := Aside0.mk (Kd.N_elder' z18_1 (Kd.N_base ho0) hb); replace BK529 := Aside0.mk (blk_below (bo BK529) hb); replace BK545 := Aside0.mk (blk_below (bo BK545) hb); replace HB := Aside0.mk (below_step sqh hb); (try clear hb); (try clear ho0); obtain ⟨hcz33_0, hcz33_1, hcz33_2, hcz33_3, hfz33_0, hfz33_1, hfz33_2, hfz33_3⟩ := sd4 BK529.out; obtain ⟨Ao34, co34, eo34⟩ := Kd.N_slice HO558.out; subst eo34))
     refine bodyPost_ret (results_cell_row rfl _ _ gb529 27 #[.int .i64 t553, .int .i64 t554, .int .i64 t555, .slice Ao34 t556.length co34] (0, 0) _ rfl ?_ Tryd.underlying27 rfl sqk) rfl ?_; exact bp BK529
     exact ⟨_, sqe, by (with_reducible repeat (first | apply Kd.N_alloc | apply Kd.N_drewN | apply Kd.N_drew)); exact Kd.N_mono (Kd.N_far (p := ⟨gb529, 3, none⟩) (Kd.N_far (p := ⟨gb529, 2, none⟩) (Kd.N_far (p := ⟨gb529, 1, none⟩) (Kd.N_far (p := ⟨gb529, 0, none⟩) (Kd.N_mono HO558.out (fun k_ hk => (⟨hk, hk.2.2.1⟩ : _ ∧ k_ ≠ gb529))) (fun _ hk => hk.2) (.int .i64 t553)) (fun _ hk => hk.2) (.int .i64 t554)) (fun _ hk => hk.2) (.int .i64 t555)) (fun _ hk => hk.2) (.slice Ao34 t556.length co34)) (fun _ hk => hk.1.1), sqh⟩
 ·replace c4 := Bool.eq_false_iff.mpr c4
  subst c4
  replace H := iF H
  obtain ⟨⟨t559, t560, t561, t562, t565, t566⟩, A35, H⟩ := bA H
  dsimp only at H
  simp only [Option.some.injEq, Prod.mk.injEq] at H
  obtain ⟨rfl, rfl, rfl, rfl⟩ := H
  go_enter Tryd.func18, Tryd.ntmps18
  go_wp2_with (first | ((with_reducible refine gate_dst (N := 2) rfl ?_); refine bx (N := 2) (cs := #[.int .i64 0, .int .i64 0, .int .i64 0, .slice none 0 0]) (t := 27) ?_; intro gb529 hg w36 hbox hb; have BK529 := Aside0.mk (hbox); have GW529 := Aside0.mk ((by rw [hg]; exact (below_size sqh) : w.heap.size ≤ gb529)); have GE529 := Aside0.mk ((by rw [hg]; exact (below_size sqh) : w.heap.size ≤ gb529)); replace HB := Aside0.mk (below_step sqh hb); clear hb hbox hg) | ((with_reducible refine gate_callee (f := 12) rfl ?_); refine goesL_ (some 6) rfl rfl Tryd.func12 sqk rfl #[.slice A0 l0.length c0] rfl sqm ?_; (with_reducible refine (spec_l1New.calls k _ _ l0 t530 t531 t532 w _ ?side1 ?side2 ?side3 A2.out).mono ?_); (case side1 => exact sqh); (case side2 => exact HR0.out); (case side3 => exact HC0.out); rintro e w37 ⟨g533, rfl, hi, hb, hb2⟩; refine ⟨_, rfl, ?_⟩; replace HB := Aside0.mk (hb); have HI533 := Aside0.mk (hi); have NB533_529 := Aside0.mk (IsS48.ne_blk hi (blk_below (bo BK529) hb2) (by decide)); have NB529_533 := Aside0.mk (Ne.symm (IsS48.ne_blk hi (blk_below (bo BK529) hb2) (by decide))); replace BK529 := Aside0.mk (blk_below (bo BK529) hb2); (try clear hb); (try clear hb2); (try clear hi)) | ((with_reducible refine gate_callee (f := 13) rfl ?_); refine goesL_ (some 8) rfl rfl Tryd.func13 sqk rfl #[.pointer (some ⟨g533, 0, none⟩), .int .i64 8] rfl sqm ?_; (with_reducible refine (spec_l1Once.calls g533 t530 t531 t532 8 false t535 t536 w _ ?side1 ?side2 A3.out).mono ?_); (case side1 => repeat (first | (with_reducible first | exact HI533.out | apply IsS48.alloc | apply IsS48.drewN | apply IsS48.drew | apply IsS48.set_1 | apply IsS48.set_2 | refine IsS48.far ?_ NB533_529.out _) | exact HI533.out)); (case side2 => exact z18_0); rintro e w38 ⟨rfl, hi, hb, hk⟩; refine ⟨_, rfl, ?_⟩; replace BK529 := Aside0.mk (KeepBut.blk hk (g' := gb529) (o := .cells #[.int .i64 0, .int .i64 0, .int .i64 0, .slice none 0 0] 27 (0, 0)) (sqb BK529.out) NB529_533.out (by simp)); replace HB := Aside0.mk (hb); replace HI533 := Aside0.mk (hi); (try clear hb); (try clear hk); (try clear hi)) | ((with_reducible refine gate_callee (f := 16) rfl ?_); refine goesL_ (some 19) rfl rfl Tryd.func16 sqk rfl #[.pointer (some ⟨g533, 0, none⟩)] rfl sqm ?_; (with_reducible refine (spec_l15Any.calls k g533 t530 t535 t536 t559 t560 t561 t562 t565 t566 w _ ?side1 ?side2 A35.out).mono ?_); (case side1 => repeat (first | (with_reducible first | exact HI533.out | apply IsS48.alloc | apply IsS48.drewN | apply IsS48.drew | apply IsS48.set_1 | apply IsS48.set_2 | refine IsS48.far ?_ NB533_529.out _) | exact HI533.out)); (case side2 => exact z18_0); rintro e w39 ⟨v563, rfl, ho0, hi, hb, hk⟩; refine ⟨_, rfl, ?_⟩; have HO564 := Aside0.mk (Kd.N_lower (Kd.N_mono (ok' := fun k_ => (w.heap.size ≤ k_) ∧ k_ ≠ gb529 ∧ k_ ≠ g533) ho0 (fun k_ hk_ => ⟨(Nat.le_trans (below_size z18_0) hk_), (Kd.freshB (bo BK529) k_ hk_), (IsS48.fresh z18_2 k_ hk_)⟩)) (below_size z18_0)); replace BK529 := Aside0.mk (KeepBut.blk hk (g' := gb529) (o := .cells #[.int .i64 0, .int .i64 0, .int .i64 0, .slice none 0 0] 27 (0, 0)) (sqb BK529.out) NB529_533.out (by simp)); replace HB := Aside0.mk (hb); replace HI533 := Aside0.mk (hi); (try clear hb); (try clear hk); (try clear hi); (try clear ho0); have hnb40 := NB529_533.out; have hnc40 := NB533_529.out; obtain ⟨hcz41_0, hcz41_1, hcz41_2, hcz41_3, hfz41_0, hfz41_1, hfz41_2, hfz41_3⟩ := sd4 BK529.out; obtain ⟨Ao42, co42, eo42⟩ := Kd.N_slice HO564.out; subst eo42))
  refine bodyPost_ret (results_cell_row rfl _ _ gb529 27 #[.int .i64 t559, .int .i64 t560, .int .i64 t561, .slice Ao42 t562.length co42] (0, 0) _ rfl ?_ Tryd.underlying27 rfl sqk) rfl ?_; exact bp BK529
  exact ⟨_, sqe, by (with_reducible repeat (first | apply Kd.N_alloc | apply Kd.N_drewN | apply Kd.N_drew)); exact Kd.N_mono (Kd.N_far (p := ⟨gb529, 3, none⟩) (Kd.N_far (p := ⟨gb529, 2, none⟩) (Kd.N_far (p := ⟨gb529, 1, none⟩) (Kd.N_far (p := ⟨gb529, 0, none⟩) (Kd.N_mono HO564.out (fun k_ hk => (⟨hk, hk.2.1⟩ : _ ∧ k_ ≠ gb529))) (fun _ hk => hk.2) (.int .i64 t559)) (fun _ hk => hk.2) (.int .i64 t560)) (fun _ hk => hk.2) (.int .i64 t561)) (fun _ hk => hk.2) (.slice Ao42 t562.length co42)) (fun _ hk => hk.1.1), by repeat (first | (with_reducible first | exact HB.out | apply below_alloc | apply pw_below_drewN | apply below_drew1 | refine below_set ?_ (IsS48.ge HI533.out) | refine below_set ?_ GE529.out) | exact HB.out)⟩

/-! ### spec_DrawFormatCond: function 7 -/
def spec_DrawFormatCond.f (k : Nat) (l0 : List Int) : Option (Int × Int × Int × (List (S27))) := (spec_DrawIsCond.f k l0).bind fun bt568 => (some (bt568.1, bt568.2.1, bt568.2.2.1, bt568.2.2.2))
set_option maxHeartbeats 8000000 in
set_option maxRecDepth 100000 in
theorem spec_DrawFormatCond.calls (k : Nat) (A0 : Option Addr) (c0 : Nat) (l0 : List Int) (r1 : Int) (r2 : Int) (r3 : Int) (r4 : List (S27)) (w : World) (hr0 : Kd.C (Kd.int .u8) w A0 l0.length l0) (hc0 : l0.length ≤ c0) (h : spec_DrawFormatCond.f k l0 = some (r1, r2, r3, r4)) :
  Calls Tryd.prog 7 #[.slice A0 l0.length c0] w fun e w' => ∃ v3_ : Value, e = .returned (.agg #[.int .i64 r1, .int .i64 r2, .int .i64 r3, v3_]) ∧ Kd.N k27 27 w' w.heap.size (fun k_ => (w.heap.size ≤ k_)) v3_ r4 ∧ Below w.heap.size w w' := by
 have hu27 := Tryd.underlying27
 have HR0 := Aside0.mk hr0
 have HC0 := Aside0.mk hc0
 clear hr0 hc0
 have HB := Aside0.mk (Below.refl w.heap.size w)
 have H : ((spec_DrawIsCond.f k l0).bind fun bt568 => (some (bt568.1, bt568.2.1, bt568.2.2.1, bt568.2.2.2))) = some (r1, r2, r3, r4) := h
 clear h
 obtain ⟨⟨t568, t569, t570, t571⟩, A2, H⟩ := bA H
 dsimp only at H
 simp only [Option.some.injEq, Prod.mk.injEq] at H
 obtain ⟨rfl, rfl, rfl, rfl⟩ := H
 go_enter Tryd.func7, Tryd.ntmps7
 go_wp2_with (first | ((with_reducible refine gate_dst (N := 2) rfl ?_); refine bx (N := 2) (cs := #[.int .i64 0, .int .i64 0, .int .i64 0, .slice none 0 0]) (t := 27) ?_; intro gb567 hg w3 hbox hb; have BK567 := Aside0.mk (hbox); have GW567 := Aside0.mk ((by rw [hg]; exact (below_size sqh) : w.heap.size ≤ gb567)); have GE567 := Aside0.mk ((by rw [hg]; exact (below_size sqh) : w.heap.size ≤ gb567)); replace HB := Aside0.mk (below_step sqh hb); clear hb hbox hg) | ((with_reducible refine gate_callee (f := 18) rfl ?_); refine goesL_ (some 4) rfl rfl Tryd.func18 sqk rfl #[.slice A0 l0.length c0] rfl sqm ?_; (with_reducible refine (spec_DrawIsCond.calls k _ _ l0 t568 t569 t570 t571 _ ?side1 ?side2 A2.out).mono ?_); (case side1 => exact sqn (Kd.C_below HR0.out HB.out)); (case side2 => exact HC0.out); rintro e w4 ⟨v572, rfl, ho0, hb⟩; refine ⟨_, rfl, ?_⟩; have HO573 := Aside0.mk (Kd.N_lower (Kd.N_mono (ok' := fun k_ => (w.heap.size ≤ k_) ∧ k_ ≠ gb567) ho0 (fun k_ hk_ => ⟨(Nat.le_trans (below_size sqh) hk_), (Kd.freshB (bo BK567) k_ hk_)⟩)) (below_size sqh)); replace BK567 := Aside0.mk (blk_below (bo BK567) hb); replace HB := Aside0.mk (below_step sqh hb); (try clear hb); (try clear ho0); obtain ⟨hcz5_0, hcz5_1, hcz5_2, hcz5_3, hfz5_0, hfz5_1, hfz5_2, hfz5_3⟩ := sd4 BK567.out; obtain ⟨Ao6, co6, eo6⟩ := Kd.N_slice HO573.out; subst eo6))
 refine bodyPost_ret (results_cell_row rfl _ _ gb567 27 #[.int .i64 t568, .int .i64 t569, .int .i64 t570, .slice Ao6 t571.length co6] (0, 0) _ rfl ?_ Tryd.underlying27 rfl sqk) rfl ?_; exact bp BK567
 exact ⟨_, sqe, by (with_reducible repeat (first | apply Kd.N_alloc | apply Kd.N_drewN | apply Kd.N_drew)); exact Kd.N_mono (Kd.N_far (p := ⟨gb567, 3, none⟩) (Kd.N_far (p := ⟨gb567, 2, none⟩) (Kd.N_far (p := ⟨gb567, 1, none⟩) (Kd.N_far (p := ⟨gb567, 0, none⟩) (Kd.N_mono HO573.out (fun k_ hk => (⟨hk, hk.2⟩ : _ ∧ k_ ≠ gb567))) (fun _ hk => hk.2) (.int .i64 t568)) (fun _ hk => hk.2) (.int .i64 t569)) (fun _ hk => hk.2) (.int .i64 t570)) (fun _ hk => hk.2) (.slice Ao6 t571.length co6)) (fun _ hk => hk.1.1), sqh⟩


/-! ### impl_EqualConds: function 11 -/
/-! ### impl_Cond_24: function 24 -/
mutual
def impl_EqualConds.f : Nat → Int → Int → Int → List (S27) → Int → Int → Int → List (S27) → Option (Bool)
 | 0, _, _, _, _, _, _, _, _ => none
 | k + 1, a0_0, a0_1, a0_2, l0_3, a1_0, a1_1, a1_2, l1_3 => if a0_0 = a1_0 then (if a0_1 = a1_1 then (if a0_2 = a1_2 then ((impl_Cond_24.f k l0_3 l1_3).bind fun t581 => (some t581)) else (some false)) else (some false)) else (some false)
def impl_Cond_24.l0 : Nat → List (S27) → List (S27) → Int → Int → Option (Bool)
 | 0, _, _, _, _ => none
 | k + 1, x1, x15, x16, x17 => if x17 < x16 then (if 0 ≤ x17 then (if x17 < (x15.length : Int) then (if x17 < (x1.length : Int) then ((impl_EqualConds.f k ((rd_T27 x15 x17).f0) ((rd_T27 x15 x17).f1) ((rd_T27 x15 x17).f2) ((rd_T27 x15 x17).f3) ((rd_T27 x1 x17).f0) ((rd_T27 x1 x17).f1) ((rd_T27 x1 x17).f2) ((rd_T27 x1 x17).f3)).bind fun t578 => (if t578 = true then (impl_Cond_24.l0 k x1 x15 x16 (wrap64 (x17 + 1))) else (some false))) else (none)) else (none)) else (none)) else (some true)
def impl_Cond_24.f : Nat → List (S27) → List (S27) → Option (Bool)
 | 0, _, _ => none
 | k + 1, l0, l1 => if (l0.length : Int) = (l1.length : Int) then (impl_Cond_24.l0 k l1 l0 (l0.length : Int) 0) else (some false)
end
theorem z24_0 {Q : Prop} (g : Q := by first | (rw [add_block]; exact hn576_3) | (show (Addr.add _ _).block ≠ _; rw [add_block]; exact hn576_3) | exact hn576_3) : Q := g
theorem z24_1 {Q : Prop} (g : Q := by first | (rw [add_block]; exact hn576_2) | (show (Addr.add _ _).block ≠ _; rw [add_block]; exact hn576_2) | exact hn576_2) : Q := g
theorem z24_2 {Q : Prop} (g : Q := by first | (rw [add_block]; exact hn576_1) | (show (Addr.add _ _).block ≠ _; rw [add_block]; exact hn576_1) | exact hn576_1) : Q := g
theorem z24_3 {Q : Prop} (g : Q := by first | (rw [add_block]; exact hn576_0) | (show (Addr.add _ _).block ≠ _; rw [add_block]; exact hn576_0) | exact hn576_0) : Q := g
theorem z24_4 {Q : Prop} (g : Q := by rw [hg]; exact (below_size sqh)) : Q := g
theorem z24_5 {Q : Prop} (g : Q := by have := World.block_lt_of_cell? _ _ hx576_0; first | rwa [add_block] at this | exact this) : Q := g
theorem z24_6 {Q : Prop} (g : Q := by rw [hg]; exact Nat.ne_of_lt (blk_lt (g := gb575) (o := .cells #[.int .i64 ((rd_T27 l0 x17_1).f0), .int .i64 ((rd_T27 l0 x17_1).f1), .int .i64 ((rd_T27 l0 x17_1).f2), .slice A574_3 ((rd_T27 l0 x17_1).f3).length c574_3] 27 (0, 0)) (bp BK575))) : Q := g
theorem z24_7 {Q : Prop} (g : Q := by rw [hg]; exact Nat.ne_of_gt (blk_lt (g := gb575) (o := .cells #[.int .i64 ((rd_T27 l0 x17_1).f0), .int .i64 ((rd_T27 l0 x17_1).f1), .int .i64 ((rd_T27 l0 x17_1).f2), .slice A574_3 ((rd_T27 l0 x17_1).f3).length c574_3] 27 (0, 0)) (bp BK575))) : Q := g
set_option maxHeartbeats 8000000 in
set_option maxRecDepth 100000 in
theorem impl_EqualConds_impl_Cond_24.both (k : Nat) :
  (∀ (a0_0 : Int) (a0_1 : Int) (a0_2 : Int) (A0_3 : Option Addr) (c0_3 : Nat) (l0_3 : List (S27)) (a1_0 : Int) (a1_1 : Int) (a1_2 : Int) (A1_3 : Option Addr) (c1_3 : Nat) (l1_3 : List (S27)) (r : Bool) (w : World) (hr0_3 : Kd.C k27 w A0_3 l0_3.length l0_3) (hc0_3 : l0_3.length ≤ c0_3) (hr1_3 : Kd.C k27 w A1_3 l1_3.length l1_3) (hc1_3 : l1_3.length ≤ c1_3) (h : impl_EqualConds.f k a0_0 a0_1 a0_2 l0_3 a1_0 a1_1 a1_2 l1_3 = some r),
  Calls Tryd.prog 11 #[.agg #[.int .i64 a0_0, .int .i64 a0_1, .int .i64 a0_2, .slice A0_3 l0_3.length c0_3], .agg #[.int .i64 a1_0, .int .i64 a1_1, .int .i64 a1_2, .slice A1_3 l1_3.length c1_3]] w fun e w' => e = .returned (.bool r) ∧ Below w.heap.size w w') ∧
  (∀ (A0 : Option Addr) (c0 : Nat) (l0 : List (S27)) (A1 : Option Addr) (c1 : Nat) (l1 : List (S27)) (r : Bool) (w : World) (hr0 : Kd.C k27 w A0 l0.length l0) (hc0 : l0.length ≤ c0) (hr1 : Kd.C k27 w A1 l1.length l1) (hc1 : l1.length ≤ c1) (h : impl_Cond_24.f k l0 l1 = some r),
  Calls Tryd.prog 24 #[.slice A0 l0.length c0, .slice A1 l1.length c1, .func (.func 11) #[] #[]] w fun e w' => e = .returned (.bool r) ∧ Below w.heap.size w w') := by
 induction k using Nat.strongRecOn with
 | _ k ihAll =>
 have ih11 := fun (m : Nat) (hm : m < k) => (ihAll m hm).1
 have ih24 := fun (m : Nat) (hm : m < k) => (ihAll m hm).2
 clear ihAll
 refine ⟨?_, ?_⟩
 ·intro a0_0 a0_1 a0_2 A0_3 c0_3 l0_3 a1_0 a1_1 a1_2 A1_3 c1_3 l1_3 r w hr0_3 hc0_3 hr1_3 hc1_3 h
  cases k with
  | zero => exact absurd h (by simp [impl_EqualConds.f])
  | succ k =>
  simp only [impl_EqualConds.f] at h
  have hu27 := Tryd.underlying27
  have HR0_3 := Aside0.mk hr0_3
  have HC0_3 := Aside0.mk hc0_3
  clear hr0_3 hc0_3
  have HR1_3 := Aside0.mk hr1_3
  have HC1_3 := Aside0.mk hc1_3
  clear hr1_3 hc1_3
  have HB := Aside0.mk (Below.refl w.heap.size w)
  have H : (if a0_0 = a1_0 then (if a0_1 = a1_1 then (if a0_2 = a1_2 then ((impl_Cond_24.f k l0_3 l1_3).bind fun t581 => (some t581)) else (some false)) else (some false)) else (some false)) = some r := h
  clear h
  by_cases c3 : a0_0 = a1_0
  ·rw [if_pos c3] at H
   have c3b0 : (a0_0 == a1_0) = true := beq_iff_eq.mpr c3
   have c3b1 : (a0_0 != a1_0) = false := bne_eq_false_iff_eq.mpr c3
   clear c3
   by_cases c4 : a0_1 = a1_1
   ·rw [if_pos c4] at H
    have c4b0 : (a0_1 == a1_1) = true := beq_iff_eq.mpr c4
    have c4b1 : (a0_1 != a1_1) = false := bne_eq_false_iff_eq.mpr c4
    clear c4
    by_cases c5 : a0_2 = a1_2
    ·rw [if_pos c5] at H
     have c5b0 : (a0_2 == a1_2) = true := beq_iff_eq.mpr c5
     have c5b1 : (a0_2 != a1_2) = false := bne_eq_false_iff_eq.mpr c5
     clear c5
     obtain ⟨t581, A6, H⟩ := bA H
     obtain rfl := Option.some.inj H
     go_enter Tryd.func11, Tryd.ntmps11
     go_wp2_with (first | ((with_reducible refine gate_dst (N := 2) rfl ?_); refine bx (N := 2) (cs := #[.int .i64 a0_0, .int .i64 a0_1, .int .i64 a0_2, .slice A0_3 l0_3.length c0_3]) (t := 27) ?_; intro gb579 hg w7 hbox hb; have BK579 := Aside0.mk (hbox); have GW579 := Aside0.mk ((z24_4 : w.heap.size ≤ gb579)); have GE579 := Aside0.mk ((z24_4 : w.heap.size ≤ gb579)); replace HB := Aside0.mk (below_step sqh hb); clear hb hbox hg) | ((with_reducible refine gate_dst (N := 3) rfl ?_); refine bx (N := 3) (cs := #[.int .i64 a1_0, .int .i64 a1_1, .int .i64 a1_2, .slice A1_3 l1_3.length c1_3]) (t := 27) ?_; intro gb580 hg w8 hbox hb; have BK580 := Aside0.mk (hbox); have GW580 := Aside0.mk ((z24_4 : w.heap.size ≤ gb580)); have GE580 := Aside0.mk ((z24_4 : w.heap.size ≤ gb580)); replace HB := Aside0.mk (below_step sqh hb); have NB579_580 := Aside0.mk ((by rw [hg]; exact Nat.ne_of_lt (blk_lt (bo BK579)) : gb579 ≠ gb580)); have NB580_579 := Aside0.mk ((by rw [hg]; exact Nat.ne_of_gt (blk_lt (bo BK579)) : gb580 ≠ gb579)); replace BK579 := Aside0.mk (blk_below (bo BK579) hb); clear hb hbox hg; have hnb9 := NB579_580.out; have hnc9 := NB580_579.out; obtain ⟨hcz10_0, hcz10_1, hcz10_2, hcz10_3, hfz10_0, hfz10_1, hfz10_2, hfz10_3⟩ := sd4 BK579.out; obtain ⟨hcz11_0, hcz11_1, hcz11_2, hcz11_3, hfz11_0, hfz11_1, hfz11_2, hfz11_3⟩ := sd4 BK580.out) | (go_at_call 24; (with_reducible refine (ih24 k (by omega) _ _ l0_3 _ _ l1_3 t581 _ ?side1 ?side2 ?side3 ?side4 A6.out).mono ?_); (case side1 => exact sqn (Kd.C_below HR0_3.out HB.out)); (case side2 => exact HC0_3.out); (case side3 => exact sqn (Kd.C_below HR1_3.out HB.out)); (case side4 => exact HC1_3.out); rintro e w12 ⟨rfl, hb⟩; replace BK579 := Aside0.mk (blk_below (bo BK579) hb); replace BK580 := Aside0.mk (blk_below (bo BK580) hb); replace HB := Aside0.mk (below_step sqh hb); (try clear hb)))
     go_ret
     exact ⟨sqe, sqh⟩
    ·rw [if_neg c5] at H
     have c5b0 : (a0_2 == a1_2) = false := beq_eq_false_iff_ne.mpr c5
     have c5b1 : (a0_2 != a1_2) = true := bne_iff_ne.mpr c5
     obtain rfl := Option.some.inj H
     go_enter Tryd.func11, Tryd.ntmps11
     go_wp2_with (first | ((with_reducible refine gate_dst (N := 2) rfl ?_); refine bx (N := 2) (cs := #[.int .i64 a0_0, .int .i64 a0_1, .int .i64 a0_2, .slice A0_3 l0_3.length c0_3]) (t := 27) ?_; intro gb579 hg w13 hbox hb; have BK579 := Aside0.mk (hbox); have GW579 := Aside0.mk ((z24_4 : w.heap.size ≤ gb579)); have GE579 := Aside0.mk ((z24_4 : w.heap.size ≤ gb579)); replace HB := Aside0.mk (below_step sqh hb); clear hb hbox hg) | ((with_reducible refine gate_dst (N := 3) rfl ?_); refine bx (N := 3) (cs := #[.int .i64 a1_0, .int .i64 a1_1, .int .i64 a1_2, .slice A1_3 l1_3.length c1_3]) (t := 27) ?_; intro gb580 hg w14 hbox hb; have BK580 := Aside0.mk (hbox); have GW580 := Aside0.mk ((z24_4 : w.heap.size ≤ gb580)); have GE580 := Aside0.mk ((z24_4 : w.heap.size ≤ gb580)); replace HB := Aside0.mk (below_step sqh hb); have NB579_580 := Aside0.mk ((by rw [hg]; exact Nat.ne_of_lt (blk_lt (bo BK579)) : gb579 ≠ gb580)); have NB580_579 := Aside0.mk ((by rw [hg]; exact Nat.ne_of_gt (blk_lt (bo BK579)) : gb580 ≠ gb579)); replace BK579 := Aside0.mk (blk_below (bo BK579) hb); clear hb hbox hg; have hnb15 := NB579_580.out; have hnc15 := NB580_579.out; obtain ⟨hcz16_0, hcz16_1, hcz16_2, hcz16_3, hfz16_0, hfz16_1, hfz16_2, hfz16_3⟩ := sd4 BK579.out; obtain ⟨hcz17_0, hcz17_1, hcz17_2, hcz17_3, hfz17_0, hfz17_1, hfz17_2, hfz17_3⟩ := sd4 BK580.out))
     go_ret
     exact ⟨sqe, sqh⟩
   ·rw [if_neg c4] at H
    have c4b0 : (a0_1 == a1_1) = false := beq_eq_false_iff_ne.mpr c4
    have c4b1 : (a0_1 != a1_1) = true := bne_iff_ne.mpr c4
    obtain rfl := Option.some.inj H
    go_enter Tryd.func11, Tryd.ntmps11
    go_wp2_with (first | ((with_reducible refine gate_dst (N := 2) rfl ?_); refine bx (N := 2) (cs := #[.int .i64 a0_0, .int .i64 a0_1, .int .i64 a0_2, .slice A0_3 l0_3.length c0_3]) (t := 27) ?_; intro gb579 hg w18 hbox hb; have BK579 := Aside0.mk (hbox); have GW579 := Aside0.mk ((z24_4 : w.heap.size ≤ gb579)); have GE579 := Aside0.mk ((z24_4 : w.heap.size ≤ gb579)); replace HB := Aside0.mk (below_step sqh hb); clear hb hbox hg) | ((with_reducible refine gate_dst (N := 3) rfl ?_); refine bx (N := 3) (cs := #[.int .i64 a1_0, .int .i64 a1_1, .int .i64 a1_2, .slice A1_3 l1_3.length c1_3]) (t := 27) ?_; intro gb580 hg w19 hbox hb; have BK580 := Aside0.mk (hbox); have GW580 := Aside0.mk ((z24_4 : w.heap.size ≤ gb580)); have GE580 := Aside0.mk ((z24_4 : w.heap.size ≤ gb580)); replace HB := Aside0.mk (below_step sqh hb); have NB579_580 := Aside0.mk ((by rw [hg]; exact Nat.ne_of_lt (blk_lt (bo BK579)) : gb579 ≠ gb580)); have NB580_579 := Aside0.mk ((by rw [hg]; exact Nat.ne_of_gt (blk_lt (bo BK579)) : gb580 ≠ gb579)); replace BK579 := Aside0.mk (blk_below (bo BK579) hb); clear hb hbox hg; have hnb20 := NB579_580.out; have hnc20 := NB580_579.out; obtain ⟨hcz21_0, hcz21_1, hcz21_2, hcz21_3, hfz21_0, hfz21_1, hfz21_2, hfz21_3⟩ := sd4 BK579.out; obtain ⟨hcz22_0, hcz22_1, hcz22_2, hcz22_3, hfz22_0, hfz22_1, hfz22_2, hfz22_3⟩ := sd4 BK580.out))
    go_ret
    exact ⟨sqe, sqh⟩
  ·rw [if_neg c3] at H
   have c3b0 : (a0_0 == a1_0) = false := beq_eq_false_iff_ne.mpr c3
   have c3b1 : (a0_0 != a1_0) = true := bne_iff_ne.mpr c3
   obtain rfl := Option.some.inj H
   go_enter Tryd.func11, Tryd.ntmps11
   go_wp2_with (first | ((with_reducible refine gate_dst (N := 2) rfl ?_); refine bx (N := 2) (cs := #[.int .i64 a0_0, .int .i64 a0_1, .int .i64 a0_2, .slice A0_3 l0_3.length c0_3]) (t := 27) ?_; intro gb579 hg w23 hbox hb; have BK579 := Aside0.mk (hbox); have GW579 := Aside0.mk ((z24_4 : w.heap.size ≤ gb579)); have GE579 := Aside0.mk ((z24_4 : w.heap.size ≤ gb579)); replace HB := Aside0.mk (below_step sqh hb); clear hb hbox hg) | ((with_reducible refine gate_dst (N := 3) rfl ?_); refine bx (N := 3) (cs := #[.int .i64 a1_0, .int .i64 a1_1, .int .i64 a1_2, .slice A1_3 l1_3.length c1_3]) (t := 27) ?_; intro gb580 hg w24 hbox hb; have BK580 := Aside0.mk (hbox); have GW580 := Aside0.mk ((z24_4 : w.heap.size ≤ gb580)); have GE580 := Aside0.mk ((z24_4 : w.heap.size ≤ gb580)); replace HB := Aside0.mk (below_step sqh hb); have NB579_580 := Aside0.mk ((by rw [hg]; exact Nat.ne_of_lt (blk_lt (bo BK579)) : gb579 ≠ gb580)); have NB580_579 := Aside0.mk ((by rw [hg]; exact Nat.ne_of_gt (blk_lt (bo BK579)) : gb580 ≠ gb579)); replace BK579 := Aside0.mk (blk_below (bo BK579) hb); clear hb hbox hg; have hnb25 := NB579_580.out; have hnc25 := NB580_579.out; obtain ⟨hcz26_0, hcz26_1, hcz26_2, hcz26_3, hfz26_0, hfz26_1, hfz26_2, hfz26_3⟩ := sd4 BK579.out; obtain ⟨hcz27_0, hcz27_1, hcz27_2, hcz27_3, hfz27_0, hfz27_1, hfz27_2, hfz27_3⟩ := sd4 BK580.out))
   go_ret
   exact ⟨sqe, sqh⟩
 ·intro A0 c0 l0 A1 c1 l1 r w hr0 hc0 hr1 hc1 h
  cases k with
  | zero => exact absurd h (by simp [impl_Cond_24.f])
  | succ k =>
  simp only [impl_Cond_24.f] at h
  have hu27 := Tryd.underlying27
  have HR0 := Aside0.mk hr0
  have HC0 := Aside0.mk hc0
  clear hr0 hc0
  have HR1 := Aside0.mk hr1
  have HC1 := Aside0.mk hc1
  clear hr1 hc1
  have HB := Aside0.mk (Below.refl w.heap.size w)
  have H : (if (l0.length : Int) = (l1.length : Int) then (impl_Cond_24.l0 k l1 l0 (l0.length : Int) 0) else (some false)) = some r := h
  clear h
  by_cases c3 : (l0.length : Int) = (l1.length : Int)
  ·rw [if_pos c3] at H
   have c3b0 : ((l0.length : Int) == (l1.length : Int)) = true := beq_iff_eq.mpr c3
   have c3b1 : ((l0.length : Int) != (l1.length : Int)) = false := bne_eq_false_iff_eq.mpr c3
   have c3b2 : (l0.length == l1.length) = true := by first | simpa using c3 | (simp at c3 ⊢; omega)
   clear c3
   have H' := Aside0.mk H
   clear H
   go_enter Tryd.func24, Tryd.ntmps24
   go_wp2
   go_loopg [17] k (fun kq v17 w' => ∃ (x17_1 : Int), v17 = .int .i64 x17_1 ∧ Aside0 (impl_Cond_24.l0 kq l1 l0 (l0.length : Int) x17_1 = some r) ∧ Aside0 (kq ≤ k) ∧ Aside0 (Below w.heap.size w w'))
   case atStart => exact ⟨(0), sqr, H', ⟨Nat.le_refl _⟩, ⟨sqh⟩⟩
   case round =>
    clear H'; try clear c1; try clear c2; try clear p2; try clear c3; try clear c3b0; try clear c3b1; try clear c3b2
    obtain ⟨x17_1, rfl, HA, HK1, HB⟩ := hrel
    cases gk with
    | zero => exact absurd HA.out (by simp [impl_Cond_24.l0])
    | succ k1 =>
     have H := HA.out
     clear HA
     simp only [impl_Cond_24.l0] at H
     by_cases c4 : x17_1 < (l0.length : Int)
     ·rw [if_pos c4] at H
      have c4b0 : decide (x17_1 < (l0.length : Int)) = true := decide_eq_true c4
      clear c4
      by_cases c5 : 0 ≤ x17_1
      ·rw [if_pos c5] at H
       have c5b0 : decide (0 ≤ x17_1) = true := decide_eq_true c5
       clear c5
       by_cases c6 : x17_1 < (l0.length : Int)
       ·rw [if_pos c6] at H
        have c6b0 : decide (x17_1 < (l0.length : Int)) = true := decide_eq_true c6
        clear c6
        by_cases c7 : x17_1 < (l1.length : Int)
        ·rw [if_pos c7] at H
         have c7b0 : decide (x17_1 < (l1.length : Int)) = true := decide_eq_true c7
         clear c7
         obtain ⟨t578, A8, H⟩ := bA H
         by_cases c9 : t578 = true
         ·subst c9
          replace H := iT H
          have H' := Aside0.mk H
          clear H
          have p574 : 0 ≤ (x17_1 : Int) := of_decide_eq_true sqs
          have q574 : x17_1 < (l0.length : Int) := of_decide_eq_true sqs
          obtain ⟨ad574, A574_3, c574_3, e574, hx574_0, hx574_1, hx574_2, hx574_3, hl574_3, hi574_3⟩ := at_T27 HR0.out x17_1 p574 q574
          cases e574
          replace hx574_0 := cl HB hx574_0; replace hx574_1 := cl HB hx574_1; replace hx574_2 := cl HB hx574_2; replace hx574_3 := cl HB hx574_3
          have HR574_3 := Aside0.mk hi574_3
          have HC574_3 := Aside0.mk hl574_3
          clear hi574_3 hl574_3
          replace p574 := eq_true p574
          replace q574 := eq_true q574
          go_wp2_with (first | ((with_reducible refine gate_dst (N := 8) rfl ?_); refine bx (N := 8) (cs := #[.int .i64 0, .int .i64 0, .int .i64 0, .slice none 0 0]) (t := 27) ?_; intro gb575 hg w10 hbox hb; have BK575 := Aside0.mk (hbox); have GW575 := Aside0.mk ((z24_4 : w.heap.size ≤ gb575)); have GE575 := Aside0.mk ((z24_4 : w.heap.size ≤ gb575)); replace HB := Aside0.mk (below_step sqh hb); clear hb hbox hg; obtain ⟨hcz11_0, hcz11_1, hcz11_2, hcz11_3, hfz11_0, hfz11_1, hfz11_2, hfz11_3⟩ := sd4 BK575.out; have p576 : 0 ≤ (x17_1 : Int) := of_decide_eq_true sqs; have q576 : x17_1 < (l1.length : Int) := of_decide_eq_true sqs; obtain ⟨ad576, A576_3, c576_3, e576, hx576_0, hx576_1, hx576_2, hx576_3, hl576_3, hi576_3⟩ := at_T27 HR1.out x17_1 p576 q576; cases e576; have hn576_0 : ad576.block ≠ gb575 := Nat.ne_of_lt (Nat.lt_of_lt_of_le z24_5 GW575.out); have hn576_1 : ad576.block ≠ gb575 := Nat.ne_of_lt (Nat.lt_of_lt_of_le z24_5 GW575.out); have hn576_2 : ad576.block ≠ gb575 := Nat.ne_of_lt (Nat.lt_of_lt_of_le z24_5 GW575.out); have hn576_3 : ad576.block ≠ gb575 := Nat.ne_of_lt (Nat.lt_of_lt_of_le z24_5 GW575.out); replace hx576_0 := cl HB hx576_0; replace hx576_1 := cl HB hx576_1; replace hx576_2 := cl HB hx576_2; replace hx576_3 := cl HB hx576_3; have HR576_3 := Aside0.mk hi576_3; have HC576_3 := Aside0.mk hl576_3; clear hi576_3 hl576_3; replace hx576_0 := (cell_far (p := ⟨gb575, 0, none⟩) z24_3 (.int .i64 ((rd_T27 l0 x17_1).f0))).trans hx576_0; replace hx576_1 := (cell_far (p := ⟨gb575, 0, none⟩) z24_3 (.int .i64 ((rd_T27 l0 x17_1).f0))).trans hx576_1; replace hx576_2 := (cell_far (p := ⟨gb575, 0, none⟩) z24_3 (.int .i64 ((rd_T27 l0 x17_1).f0))).trans hx576_2; replace hx576_3 := (cell_far (p := ⟨gb575, 0, none⟩) z24_3 (.int .i64 ((rd_T27 l0 x17_1).f0))).trans hx576_3; replace hx576_0 := (cell_far (p := ⟨gb575, 1, none⟩) z24_2 (.int .i64 ((rd_T27 l0 x17_1).f1))).trans hx576_0; replace hx576_1 := (cell_far (p := ⟨gb575, 1, none⟩) z24_2 (.int .i64 ((rd_T27 l0 x17_1).f1))).trans hx576_1; replace hx576_2 := (cell_far (p := ⟨gb575, 1, none⟩) z24_2 (.int .i64 ((rd_T27 l0 x17_1).f1))).trans hx576_2; replace hx576_3 := (cell_far (p := ⟨gb575, 1, none⟩) z24_2 (.int .i64 ((rd_T27 l0 x17_1).f1))).trans hx576_3; replace hx576_0 := (cell_far (p := ⟨gb575, 2, none⟩) z24_1 (.int .i64 ((rd_T27 l0 x17_1).f2))).trans hx576_0; replace hx576_1 := (cell_far (p := ⟨gb575, 2, none⟩) z24_1 (.int .i64 ((rd_T27 l0 x17_1).f2))).trans hx576_1; replace hx576_2 := (cell_far (p := ⟨gb575, 2, none⟩) z24_1 (.int .i64 ((rd_T27 l0 x17_1).f2))).trans hx576_2; replace hx576_3 := (cell_far (p := ⟨gb575, 2, none⟩) z24_1 (.int .i64 ((rd_T27 l0 x17_1).f2))).trans hx576_3; replace hx576_0 := (cell_far (p := ⟨gb575, 3, none⟩) z24_0 (.slice A574_3 ((rd_T27 l0 x17_1).f3).length c574_3)).trans hx576_0; replace hx576_1 := (cell_far (p := ⟨gb575, 3, none⟩) z24_0 (.slice A574_3 ((rd_T27 l0 x17_1).f3).length c574_3)).trans hx576_1; replace hx576_2 := (cell_far (p := ⟨gb575, 3, none⟩) z24_0 (.slice A574_3 ((rd_T27 l0 x17_1).f3).length c574_3)).trans hx576_2; replace hx576_3 := (cell_far (p := ⟨gb575, 3, none⟩) z24_0 (.slice A574_3 ((rd_T27 l0 x17_1).f3).length c574_3)).trans hx576_3; clear hn576_0; clear hn576_1; clear hn576_2; clear hn576_3; replace p576 := eq_true p576; replace q576 := eq_true q576) | ((with_reducible refine gate_dst (N := 9) rfl ?_); refine bx (N := 9) (cs := #[.int .i64 0, .int .i64 0, .int .i64 0, .slice none 0 0]) (t := 27) ?_; intro gb577 hg w12 hbox hb; have BK577 := Aside0.mk (hbox); have GW577 := Aside0.mk ((z24_4 : w.heap.size ≤ gb577)); have GE577 := Aside0.mk ((z24_4 : w.heap.size ≤ gb577)); replace HB := Aside0.mk (below_step sqh hb); have NB575_577 := Aside0.mk ((z24_6 : gb575 ≠ gb577)); have NB577_575 := Aside0.mk ((z24_7 : gb577 ≠ gb575)); replace BK575 := Aside0.mk (blk_below (g := gb575) (o := .cells #[.int .i64 ((rd_T27 l0 x17_1).f0), .int .i64 ((rd_T27 l0 x17_1).f1), .int .i64 ((rd_T27 l0 x17_1).f2), .slice A574_3 ((rd_T27 l0 x17_1).f3).length c574_3] 27 (0, 0)) (bp BK575) hb); clear hb hbox hg; have hnb13 := NB577_575.out; have hnc13 := NB575_577.out; obtain ⟨hcz14_0, hcz14_1, hcz14_2, hcz14_3, hfz14_0, hfz14_1, hfz14_2, hfz14_3⟩ := sd4 BK577.out; obtain ⟨hcz15_0, hcz15_1, hcz15_2, hcz15_3, hfz15_0, hfz15_1, hfz15_2, hfz15_3⟩ := sd4 BK575.out) | (go_at_call 11; (with_reducible refine (ih11 k1 (by have := HK1.out; omega) ((rd_T27 l0 x17_1).f0) ((rd_T27 l0 x17_1).f1) ((rd_T27 l0 x17_1).f2) _ _ ((rd_T27 l0 x17_1).f3) ((rd_T27 l1 x17_1).f0) ((rd_T27 l1 x17_1).f1) ((rd_T27 l1 x17_1).f2) _ _ ((rd_T27 l1 x17_1).f3) true _ ?side1 ?side2 ?side3 ?side4 A8.out).mono ?_); (case side1 => exact Kd.C_below HR574_3.out sqh); (case side2 => exact HC574_3.out); (case side3 => exact Kd.C_below HR576_3.out sqh); (case side4 => exact HC576_3.out); rintro e w16 ⟨rfl, hb⟩; replace BK575 := Aside0.mk (blk_below (g := gb575) (o := .cells #[.int .i64 ((rd_T27 l0 x17_1).f0), .int .i64 ((rd_T27 l0 x17_1).f1), .int .i64 ((rd_T27 l0 x17_1).f2), .slice A574_3 ((rd_T27 l0 x17_1).f3).length c574_3] 27 (0, 0)) (bp BK575) hb); replace BK577 := Aside0.mk (blk_below (g := gb577) (o := .cells #[.int .i64 ((rd_T27 l1 x17_1).f0), .int .i64 ((rd_T27 l1 x17_1).f1), .int .i64 ((rd_T27 l1 x17_1).f2), .slice A576_3 ((rd_T27 l1 x17_1).f3).length c576_3] 27 (0, 0)) (bp BK577) hb); replace HB := Aside0.mk (below_step sqh hb); (try clear hb)))
          go_roundg k1
          case measure => have := HK1.out; omega
          case rel => exact ⟨(wrap64 (x17_1 + 1)), sqr, H', ⟨by have := HK1.out; omega⟩, ⟨sqh⟩⟩
         ·replace c9 := Bool.eq_false_iff.mpr c9
          subst c9
          replace H := iF H
          obtain rfl := Option.some.inj H
          have p574 : 0 ≤ (x17_1 : Int) := of_decide_eq_true sqs
          have q574 : x17_1 < (l0.length : Int) := of_decide_eq_true sqs
          obtain ⟨ad574, A574_3, c574_3, e574, hx574_0, hx574_1, hx574_2, hx574_3, hl574_3, hi574_3⟩ := at_T27 HR0.out x17_1 p574 q574
          cases e574
          replace hx574_0 := cl HB hx574_0; replace hx574_1 := cl HB hx574_1; replace hx574_2 := cl HB hx574_2; replace hx574_3 := cl HB hx574_3
          have HR574_3 := Aside0.mk hi574_3
          have HC574_3 := Aside0.mk hl574_3
          clear hi574_3 hl574_3
          replace p574 := eq_true p574
          replace q574 := eq_true q574
          go_wp2_with (first | ((with_reducible refine gate_dst (N := 8) rfl ?_); refine bx (N := 8) (cs := #[.int .i64 0, .int .i64 0, .int .i64 0, .slice none 0 0]) (t := 27) ?_; intro gb575 hg w17 hbox hb; have BK575 := Aside0.mk (hbox); have GW575 := Aside0.mk ((z24_4 : w.heap.size ≤ gb575)); have GE575 := Aside0.mk ((z24_4 : w.heap.size ≤ gb575)); replace HB := Aside0.mk (below_step sqh hb); clear hb hbox hg; obtain ⟨hcz18_0, hcz18_1, hcz18_2, hcz18_3, hfz18_0, hfz18_1, hfz18_2, hfz18_3⟩ := sd4 BK575.out; have p576 : 0 ≤ (x17_1 : Int) := of_decide_eq_true sqs; have q576 : x17_1 < (l1.length : Int) := of_decide_eq_true sqs; obtain ⟨ad576, A576_3, c576_3, e576, hx576_0, hx576_1, hx576_2, hx576_3, hl576_3, hi576_3⟩ := at_T27 HR1.out x17_1 p576 q576; cases e576; have hn576_0 : ad576.block ≠ gb575 := Nat.ne_of_lt (Nat.lt_of_lt_of_le z24_5 GW575.out); have hn576_1 : ad576.block ≠ gb575 := Nat.ne_of_lt (Nat.lt_of_lt_of_le z24_5 GW575.out); have hn576_2 : ad576.block ≠ gb575 := Nat.ne_of_lt (Nat.lt_of_lt_of_le z24_5 GW575.out); have hn576_3 : ad576.block ≠ gb575 := Nat.ne_of_lt (Nat.lt_of_lt_of_le z24_5 GW575.out); replace hx576_0 := cl HB hx576_0; replace hx576_1 := cl HB hx576_1; replace hx576_2 := cl HB hx576_2; replace hx576_3 := cl HB hx576_3; have HR576_3 := Aside0.mk hi576_3; have HC576_3 := Aside0.mk hl576_3; clear hi576_3 hl576_3; replace hx576_0 := (cell_far (p := ⟨gb575, 0, none⟩) z24_3 (.int .i64 ((rd_T27 l0 x17_1).f0))).trans hx576_0; replace hx576_1 := (cell_far (p := ⟨gb575, 0, none⟩) z24_3 (.int .i64 ((rd_T27 l0 x17_1).f0))).trans hx576_1; replace hx576_2 := (cell_far (p := ⟨gb575, 0, none⟩) z24_3 (.int .i64 ((rd_T27 l0 x17_1).f0))).trans hx576_2; replace hx576_3 := (cell_far (p := ⟨gb575, 0, none⟩) z24_3 (.int .i64 ((rd_T27 l0 x17_1).f0))).trans hx576_3; replace hx576_0 := (cell_far (p := ⟨gb575, 1, none⟩) z24_2 (.int .i64 ((rd_T27 l0 x17_1).f1))).trans hx576_0; replace hx576_1 := (cell_far (p := ⟨gb575, 1, none⟩) z24_2 (.int .i64 ((rd_T27 l0 x17_1).f1))).trans hx576_1; replace hx576_2 := (cell_far (p := ⟨gb575, 1, none⟩) z24_2 (.int .i64 ((rd_T27 l0 x17_1).f1))).trans hx576_2; replace hx576_3 := (cell_far (p := ⟨gb575, 1, none⟩) z24_2 (.int .i64 ((rd_T27 l0 x17_1).f1))).trans hx576_3; replace hx576_0 := (cell_far (p := ⟨gb575, 2, none⟩) z24_1 (.int .i64 ((rd_T27 l0 x17_1).f2))).trans hx576_0; replace hx576_1 := (cell_far (p := ⟨gb575, 2, none⟩) z24_1 (.int .i64 ((rd_T27 l0 x17_1).f2))).trans hx576_1; replace hx576_2 := (cell_far (p := ⟨gb575, 2, none⟩) z24_1 (.int .i64 ((rd_T27 l0 x17_1).f2))).trans hx576_2; replace hx576_3 := (cell_far (p := ⟨gb575, 2, none⟩) z24_1 (.int .i64 ((rd_T27 l0 x17_1).f2))).trans hx576_3; replace hx576_0 := (cell_far (p := ⟨gb575, 3, none⟩) z24_0 (.slice A574_3 ((rd_T27 l0 x17_1).f3).length c574_3)).trans hx576_0; replace hx576_1 := (cell_far (p := ⟨gb575, 3, none⟩) z24_0 (.slice A574_3 ((rd_T27 l0 x17_1).f3).length c574_3)).trans hx576_1; replace hx576_2 := (cell_far (p := ⟨gb575, 3, none⟩) z24_0 (.slice A574_3 ((rd_T27 l0 x17_1).f3).length c574_3)).trans hx576_2; replace hx576_3 := (cell_far (p := ⟨gb575, 3, none⟩) z24_0 (.slice A574_3 ((rd_T27 l0 x17_1).f3).length c574_3)).trans hx576_3; clear hn576_0; clear hn576_1; clear hn576_2; clear hn576_3; replace p576 := eq_true p576; replace q576 := eq_true q576) | ((with_reducible refine gate_dst (N := 9) rfl ?_); refine bx (N := 9) (cs := #[.int .i64 0, .int .i64 0, .int .i64 0, .slice none 0 0]) (t := 27) ?_; intro gb577 hg w19 hbox hb; have BK577 := Aside0.mk (hbox); have GW577 := Aside0.mk ((z24_4 : w.heap.size ≤ gb577)); have GE577 := Aside0.mk ((z24_4 : w.heap.size ≤ gb577)); replace HB := Aside0.mk (below_step sqh hb); have NB575_577 := Aside0.mk ((z24_6 : gb575 ≠ gb577)); have NB577_575 := Aside0.mk ((z24_7 : gb577 ≠ gb575)); replace BK575 := Aside0.mk (blk_below (g := gb575) (o := .cells #[.int .i64 ((rd_T27 l0 x17_1).f0), .int .i64 ((rd_T27 l0 x17_1).f1), .int .i64 ((rd_T27 l0 x17_1).f2), .slice A574_3 ((rd_T27 l0 x17_1).f3).length c574_3] 27 (0, 0)) (bp BK575) hb); clear hb hbox hg; have hnb20 := NB577_575.out; have hnc20 := NB575_577.out; obtain ⟨hcz21_0, hcz21_1, hcz21_2, hcz21_3, hfz21_0, hfz21_1, hfz21_2, hfz21_3⟩ := sd4 BK577.out; obtain ⟨hcz22_0, hcz22_1, hcz22_2, hcz22_3, hfz22_0, hfz22_1, hfz22_2, hfz22_3⟩ := sd4 BK575.out) | (go_at_call 11; (with_reducible refine (ih11 k1 (by have := HK1.out; omega) ((rd_T27 l0 x17_1).f0) ((rd_T27 l0 x17_1).f1) ((rd_T27 l0 x17_1).f2) _ _ ((rd_T27 l0 x17_1).f3) ((rd_T27 l1 x17_1).f0) ((rd_T27 l1 x17_1).f1) ((rd_T27 l1 x17_1).f2) _ _ ((rd_T27 l1 x17_1).f3) false _ ?side1 ?side2 ?side3 ?side4 A8.out).mono ?_); (case side1 => exact Kd.C_below HR574_3.out sqh); (case side2 => exact HC574_3.out); (case side3 => exact Kd.C_below HR576_3.out sqh); (case side4 => exact HC576_3.out); rintro e w23 ⟨rfl, hb⟩; replace BK575 := Aside0.mk (blk_below (g := gb575) (o := .cells #[.int .i64 ((rd_T27 l0 x17_1).f0), .int .i64 ((rd_T27 l0 x17_1).f1), .int .i64 ((rd_T27 l0 x17_1).f2), .slice A574_3 ((rd_T27 l0 x17_1).f3).length c574_3] 27 (0, 0)) (bp BK575) hb); replace BK577 := Aside0.mk (blk_below (g := gb577) (o := .cells #[.int .i64 ((rd_T27 l1 x17_1).f0), .int .i64 ((rd_T27 l1 x17_1).f1), .int .i64 ((rd_T27 l1 x17_1).f2), .slice A576_3 ((rd_T27 l1 x17_1).f3).length c576_3] 27 (0, 0)) (bp BK577) hb); replace HB := Aside0.mk (below_step sqh hb); (try clear hb)))
          go_ret
          exact ⟨sqe, sqh⟩
        ·rw [if_neg c7] at H
         exact absurd H (by simp)
       ·rw [if_neg c6] at H
        exact absurd H (by simp)
      ·rw [if_neg c5] at H
       exact absurd H (by simp)
     ·rw [if_neg c4] at H
      have c4b0 : decide (x17_1 < (l0.length : Int)) = false := decide_eq_false c4
      clear c4
      obtain rfl := Option.some.inj H
      go_wp2
      go_ret
      exact ⟨sqe, sqh⟩
  ·rw [if_neg c3] at H
   have c3b0 : ((l0.length : Int) == (l1.length : Int)) = false := beq_eq_false_iff_ne.mpr c3
   have c3b1 : ((l0.length : Int) != (l1.length : Int)) = true := bne_iff_ne.mpr c3
   have c3b2 : (l0.length == l1.length) = false := by first | simpa using c3 | (simp at c3 ⊢; omega)
   obtain rfl := Option.some.inj H
   go_enter Tryd.func24, Tryd.ntmps24
   go_wp2
   go_ret
   exact ⟨sqe, sqh⟩
theorem impl_EqualConds.calls (k : Nat) : ∀ (a0_0 : Int) (a0_1 : Int) (a0_2 : Int) (A0_3 : Option Addr) (c0_3 : Nat) (l0_3 : List (S27)) (a1_0 : Int) (a1_1 : Int) (a1_2 : Int) (A1_3 : Option Addr) (c1_3 : Nat) (l1_3 : List (S27)) (r : Bool) (w : World) (hr0_3 : Kd.C k27 w A0_3 l0_3.length l0_3) (hc0_3 : l0_3.length ≤ c0_3) (hr1_3 : Kd.C k27 w A1_3 l1_3.length l1_3) (hc1_3 : l1_3.length ≤ c1_3) (h : impl_EqualConds.f k a0_0 a0_1 a0_2 l0_3 a1_0 a1_1 a1_2 l1_3 = some r),
  Calls Tryd.prog 11 #[.agg #[.int .i64 a0_0, .int .i64 a0_1, .int .i64 a0_2, .slice A0_3 l0_3.length c0_3], .agg #[.int .i64 a1_0, .int .i64 a1_1, .int .i64 a1_2, .slice A1_3 l1_3.length c1_3]] w fun e w' => e = .returned (.bool r) ∧ Below w.heap.size w w' := (impl_EqualConds_impl_Cond_24.both k).1
theorem impl_Cond_24.calls (k : Nat) : ∀ (A0 : Option Addr) (c0 : Nat) (l0 : List (S27)) (A1 : Option Addr) (c1 : Nat) (l1 : List (S27)) (r : Bool) (w : World) (hr0 : Kd.C k27 w A0 l0.length l0) (hc0 : l0.length ≤ c0) (hr1 : Kd.C k27 w A1 l1.length l1) (hc1 : l1.length ≤ c1) (h : impl_Cond_24.f k l0 l1 = some r),
  Calls Tryd.prog 24 #[.slice A0 l0.length c0, .slice A1 l1.length c1, .func (.func 11) #[] #[]] w fun e w' => e = .returned (.bool r) ∧ Below w.heap.size w w' := (impl_EqualConds_impl_Cond_24.both k).2

end Go.Proofs.YtilcmgdjfhhcdaaDoor.XFnTexts
