/- Written by this session's own program (wip/xprint, which runs over the kit's print): what the functions that the law reaches come to, each proved; and the law's row. Conditions: none. -/
import Derived.Test.YtilcmgdjfhhcdaaDoorUFnTextsSq
import Derived.Test.YtilcmgdjfhhcdaaDoorUFnTextsx0
import Derived.Test.YtilcmgdjfhhcdaaDoorUFnTextsx1
import Derived.Test.YtilcmgdjfhhcdaaDoorUFnTextsx2
import Derived.Test.YtilcmgdjfhhcdaaDoorUFnTextsx3
namespace Go.Proofs.YtilcmgdjfhhcdaaDoor.XFnTexts
open Go.RowKit Go.Proofs.YtilcmgdjfhhcdaaDoorW.PrintWords Go.Proofs.YtilcmgdjfhhcdaaDoorW.PrintLast Go.Proofs.YtilcmgdjfhhcdaaDoorW.PrintMore Go.Proofs.YtilcmgdjfhhcdaaDoorSq
attribute [local go_sem] max2_int min2_int max_two min_two max_three min_three max_four min_four   -- for this text's walks alone
set_option linter.unusedVariables false
set_option linter.unusedSimpArgs false

/-! ### spec_FormatCond: function 15 -/
def spec_FormatCond.f (k : Nat) (a0_0 : Int) (a0_1 : Int) (a0_2 : Int) (l0_3 : List (S27)) : Option (ByteArray) := (spec_IsCond.f k a0_0 a0_1 a0_2 l0_3).bind fun t167 => (if t167 = true then ((spec_l16Text.f k a0_0 a0_1 a0_2 l0_3).bind fun t168 => (some t168)) else (some (⟨#[]⟩ : ByteArray)))
set_option maxHeartbeats 8000000 in
set_option maxRecDepth 100000 in
theorem spec_FormatCond.calls (k : Nat) (a0_0 : Int) (a0_1 : Int) (a0_2 : Int) (A0_3 : Option Addr) (c0_3 : Nat) (l0_3 : List (S27)) (r : ByteArray) (w : World) (hr0_3 : Kd.C k27 w A0_3 l0_3.length l0_3) (hc0_3 : l0_3.length ≤ c0_3) (h : spec_FormatCond.f k a0_0 a0_1 a0_2 l0_3 = some r) :
  Calls Tryd.prog 15 #[.agg #[.int .i64 a0_0, .int .i64 a0_1, .int .i64 a0_2, .slice A0_3 l0_3.length c0_3]] w fun e w' => e = .returned (.string r) ∧ Below w.heap.size w w' := by
 have hu27 := Tryd.underlying27
 have HR0_3 := Aside0.mk hr0_3
 have HC0_3 := Aside0.mk hc0_3
 clear hr0_3 hc0_3
 have HB := Aside0.mk (Below.refl w.heap.size w)
 have H : ((spec_IsCond.f k a0_0 a0_1 a0_2 l0_3).bind fun t167 => (if t167 = true then ((spec_l16Text.f k a0_0 a0_1 a0_2 l0_3).bind fun t168 => (some t168)) else (some (⟨#[]⟩ : ByteArray)))) = some r := h
 clear h
 obtain ⟨t167, A2, H⟩ := bA H
 by_cases c3 : t167 = true
 ·subst c3
  replace H := iT H
  obtain ⟨t168, A4, H⟩ := bA H
  obtain rfl := Option.some.inj H
  go_enter Tryd.func15, Tryd.ntmps15
  go_wp2_with (first | ((with_reducible refine gate_dst (N := 1) rfl ?_); refine bx (N := 1) (cs := #[.int .i64 a0_0, .int .i64 a0_1, .int .i64 a0_2, .slice A0_3 l0_3.length c0_3]) (t := 27) ?_; intro gb166 hg w5 hbox hb; have BK166 := Aside0.mk (hbox); have GW166 := Aside0.mk ((by rw [hg]; exact (below_size sqh) : w.heap.size ≤ gb166)); have GE166 := Aside0.mk ((by rw [hg]; exact (below_size sqh) : w.heap.size ≤ gb166)); replace HB := Aside0.mk (below_step sqh hb); clear hb hbox hg; obtain ⟨hcz6_0, hcz6_1, hcz6_2, hcz6_3, hfz6_0, hfz6_1, hfz6_2, hfz6_3⟩ := sd4 BK166.out) | ((with_reducible refine gate_callee (f := 10) rfl ?_); refine goesL_ (some 4) rfl rfl Tryd.func10 sqk rfl #[.agg #[.int .i64 a0_0, .int .i64 a0_1, .int .i64 a0_2, .slice A0_3 l0_3.length c0_3]] rfl sqm ?_; (with_reducible refine (spec_IsCond.calls k a0_0 a0_1 a0_2 _ _ l0_3 true _ ?side1 ?side2 A2.out).mono ?_); (case side1 => exact sqn (Kd.C_below HR0_3.out HB.out)); (case side2 => exact HC0_3.out); rintro e w7 ⟨rfl, hb⟩; refine ⟨_, rfl, ?_⟩; replace BK166 := Aside0.mk (blk_below (bo BK166) hb); replace HB := Aside0.mk (below_step sqh hb); (try clear hb); obtain ⟨hcz8_0, hcz8_1, hcz8_2, hcz8_3, hfz8_0, hfz8_1, hfz8_2, hfz8_3⟩ := sd4 BK166.out) | ((with_reducible refine gate_callee (f := 26) rfl ?_); refine goesL_ (some 7) rfl rfl Tryd.func26 sqk rfl #[.agg #[.int .i64 a0_0, .int .i64 a0_1, .int .i64 a0_2, .slice A0_3 l0_3.length c0_3]] rfl sqm ?_; (with_reducible refine (spec_l16Text.calls k a0_0 a0_1 a0_2 _ _ l0_3 t168 _ ?side1 ?side2 A4.out).mono ?_); (case side1 => exact sqn (Kd.C_below HR0_3.out HB.out)); (case side2 => exact HC0_3.out); rintro e w9 ⟨rfl, hb⟩; refine ⟨_, rfl, ?_⟩; replace BK166 := Aside0.mk (blk_below (bo BK166) hb); replace HB := Aside0.mk (below_step sqh hb); (try clear hb)))
  go_ret
  exact ⟨sqe, sqh⟩
 ·replace c3 := Bool.eq_false_iff.mpr c3
  subst c3
  replace H := iF H
  obtain rfl := Option.some.inj H
  go_enter Tryd.func15, Tryd.ntmps15
  go_wp2_with (first | ((with_reducible refine gate_dst (N := 1) rfl ?_); refine bx (N := 1) (cs := #[.int .i64 a0_0, .int .i64 a0_1, .int .i64 a0_2, .slice A0_3 l0_3.length c0_3]) (t := 27) ?_; intro gb166 hg w10 hbox hb; have BK166 := Aside0.mk (hbox); have GW166 := Aside0.mk ((by rw [hg]; exact (below_size sqh) : w.heap.size ≤ gb166)); have GE166 := Aside0.mk ((by rw [hg]; exact (below_size sqh) : w.heap.size ≤ gb166)); replace HB := Aside0.mk (below_step sqh hb); clear hb hbox hg; obtain ⟨hcz11_0, hcz11_1, hcz11_2, hcz11_3, hfz11_0, hfz11_1, hfz11_2, hfz11_3⟩ := sd4 BK166.out) | ((with_reducible refine gate_callee (f := 10) rfl ?_); refine goesL_ (some 4) rfl rfl Tryd.func10 sqk rfl #[.agg #[.int .i64 a0_0, .int .i64 a0_1, .int .i64 a0_2, .slice A0_3 l0_3.length c0_3]] rfl sqm ?_; (with_reducible refine (spec_IsCond.calls k a0_0 a0_1 a0_2 _ _ l0_3 false _ ?side1 ?side2 A2.out).mono ?_); (case side1 => exact sqn (Kd.C_below HR0_3.out HB.out)); (case side2 => exact HC0_3.out); rintro e w12 ⟨rfl, hb⟩; refine ⟨_, rfl, ?_⟩; replace BK166 := Aside0.mk (blk_below (bo BK166) hb); replace HB := Aside0.mk (below_step sqh hb); (try clear hb)))
  go_ret
  exact ⟨sqe, sqh⟩

/-! ### spec_l1Int: function 28 -/
def spec_l1Int.f (s0_0 : List Int) (s0_1 : Int) (s0_2 : Int) (l1 : List Int) : Option (Int × Int × Int) := (spec_l1Below.f s0_0 s0_1 s0_2 (l1.length : Int)).bind fun bt169 => (if 0 ≤ bt169.1 then (if bt169.1 < (l1.length : Int) then (some (rd l1 bt169.1, bt169.2.1, bt169.2.2)) else (none)) else (none))
set_option maxHeartbeats 8000000 in
set_option maxRecDepth 100000 in
theorem spec_l1Int.calls (g : Nat) (s0_0 : List Int) (s0_1 : Int) (s0_2 : Int) (A1 : Option Addr) (c1 : Nat) (l1 : List Int) (r1 : Int) (r2 : Int) (r3 : Int) (w0 w : World) (hI : IsS48 w0 w g s0_0 s0_1 s0_2) (hB : Below w0.heap.size w0 w) (hr1 : Kd.C (Kd.int .i64) w A1 l1.length l1) (hc1 : l1.length ≤ c1) (hf1 : ∀ ad, A1 = some ad → 0 < l1.length → ad.block ≠ g) (h : spec_l1Int.f s0_0 s0_1 s0_2 l1 = some (r1, r2, r3)) :
  Calls Tryd.prog 28 #[.pointer (some ⟨g, 0, none⟩), .slice A1 l1.length c1] w fun e w' => e = .returned (.int .i64 r1) ∧ IsS48 w0 w' g s0_0 r2 r3 ∧ Below w0.heap.size w0 w' ∧ KeepBut w w' g none := by
 have HR1 := Aside0.mk hr1
 have HC1 := Aside0.mk hc1
 clear hr1 hc1
 have HI0 := Aside0.mk hI
 have HK := Aside0.mk (KeepBut.refl w g none)
 have HL := Aside0.mk hB.size
 clear hI
 have HW0 := Aside0.mk hB.size
 have HB := Aside0.mk hB
 clear hB
 have H : ((spec_l1Below.f s0_0 s0_1 s0_2 (l1.length : Int)).bind fun bt169 => (if 0 ≤ bt169.1 then (if bt169.1 < (l1.length : Int) then (some (rd l1 bt169.1, bt169.2.1, bt169.2.2)) else (none)) else (none))) = some (r1, r2, r3) := h
 clear h
 obtain ⟨⟨t169, t170, t171⟩, A3, H⟩ := bA H
 dsimp only at H
 by_cases c4 : 0 ≤ t169
 ·rw [if_pos c4] at H
  have c4b0 : decide (0 ≤ t169) = true := decide_eq_true c4
  clear c4
  by_cases c5 : t169 < (l1.length : Int)
  ·rw [if_pos c5] at H
   have c5b0 : decide (t169 < (l1.length : Int)) = true := decide_eq_true c5
   clear c5
   simp only [Option.some.injEq, Prod.mk.injEq] at H
   obtain ⟨rfl, rfl, rfl⟩ := H
   go_enter Tryd.func28, Tryd.ntmps28
   go_wp2_with (first | ((with_reducible refine gate_callee (f := 25) rfl ?_); refine goesL_ (some 9) rfl rfl Tryd.func25 sqk rfl #[.pointer (some ⟨g, 0, none⟩), .int .i64 (l1.length : Int)] rfl sqm ?_; (with_reducible refine (spec_l1Below.calls g s0_0 s0_1 s0_2 (l1.length : Int) t169 t170 t171 w0 _ ?side1 ?side2 A3.out).mono ?_); (case side1 => exact sqi); (case side2 => exact sqj); rintro e w6 ⟨rfl, hi, hb, hk⟩; refine ⟨_, rfl, ?_⟩; replace HK := Aside0.mk (KeepBut.trans sqp hk (.inl rfl)); replace HB := Aside0.mk (hb); replace HI0 := Aside0.mk (hi); (try clear hb); (try clear hk); (try clear hi); have p172 : 0 ≤ (t169 : Int) := of_decide_eq_true sqs; have q172 : t169 < (l1.length : Int) := of_decide_eq_true sqs; obtain ⟨ad172, e172, hx172_0⟩ := Kd.at_int HR1.out t169 p172 q172; cases e172; replace hx172_0 := keep_cell HK.out hx172_0 (by first | (rw [add_block]; exact hf1 _ rfl (by omega)) | exact hf1 _ rfl (by omega) | exact hf1 ad172 rfl (by omega)); replace p172 := eq_true p172; replace q172 := eq_true q172))
   go_ret
   exact ⟨sqe, sqi, sqj, sqp⟩
  ·rw [if_neg c5] at H
   exact absurd H (by simp)
 ·rw [if_neg c4] at H
  exact absurd H (by simp)

/-! ### spec_l15Leaf: function 29 -/
def spec_l15Leaf.j0 : Nat → Int → Int → Bool → List Int → Int → Int → Option (Int × Int × Int × (List (S27)) × Int × Int)
 | 0, _, _, _, _, _, _ => none
 | k + 1, x3, x8, x12, x1000, x1001, x1002 => if x12 = true then ((spec_l1Below.f x1000 x1001 x1002 3).bind fun bt183 => (some (2, bt183.1, x3, ([] : List (S27)), bt183.2.1, bt183.2.2))) else (if x8 = 3 then (some (3, 0, x3, ([] : List (S27)), x1001, x1002)) else (if x8 = 4 then ((spec_l1Below.f x1000 x1001 x1002 3).bind fun bt186 => (some (4, wrap64 (1 + bt186.1), x3, ([] : List (S27)), bt186.2.1, bt186.2.2))) else (if x8 = 5 then ((spec_l1Below.f x1000 x1001 x1002 2).bind fun bt189 => (some (5, wrap64 (1 + bt189.1), x3, ([] : List (S27)), bt189.2.1, bt189.2.2))) else ((spec_l1Int.f x1000 x1001 x1002 (([5, 15, 25] : List Int))).bind fun bt195 => (some (6, bt195.1, 0, ([] : List (S27)), bt195.2.1, bt195.2.2))))))
def spec_l15Leaf.f (k : Nat) (s0_0 : List Int) (s0_1 : Int) (s0_2 : Int) : Option (Int × Int × Int × (List (S27)) × Int × Int) := (spec_l1Int.f s0_0 s0_1 s0_2 (([3, 10, 20] : List Int))).bind fun bt177 => ((spec_l1Below.f s0_0 bt177.2.1 bt177.2.2 7).bind fun bt180 => (if bt180.1 = 0 then (some (1, 0, 0, ([] : List (S27)), bt180.2.1, bt180.2.2)) else (if bt180.1 = 1 then (spec_l15Leaf.j0 k bt177.1 bt180.1 (bt180.1 == 1) s0_0 bt180.2.1 bt180.2.2) else (spec_l15Leaf.j0 k bt177.1 bt180.1 (bt180.1 == 2) s0_0 bt180.2.1 bt180.2.2))))
theorem z29_0 {Q : Prop} (g : Q := by repeat (first | (with_reducible first | exact HK.out | apply KeepBut.set_ | apply keep_drewN | apply keep_drew | apply keep_alloc | refine keep_far ?_ GW173.out _) | exact HK.out)) : Q := g
set_option maxHeartbeats 8000000 in
set_option maxRecDepth 100000 in
theorem spec_l15Leaf.calls (k : Nat) (g : Nat) (s0_0 : List Int) (s0_1 : Int) (s0_2 : Int) (r1 : Int) (r2 : Int) (r3 : Int) (r4 : List (S27)) (r5 : Int) (r6 : Int) (w0 w : World) (hI : IsS48 w0 w g s0_0 s0_1 s0_2) (hB : Below w0.heap.size w0 w) (h : spec_l15Leaf.f k s0_0 s0_1 s0_2 = some (r1, r2, r3, r4, r5, r6)) :
  Calls Tryd.prog 29 #[.pointer (some ⟨g, 0, none⟩)] w fun e w' => ∃ v3_ : Value, e = .returned (.agg #[.int .i64 r1, .int .i64 r2, .int .i64 r3, v3_]) ∧ Kd.R k27 27 w' w.heap.size (fun _ => True) v3_ r4 ∧ IsS48 w0 w' g s0_0 r5 r6 ∧ Below w0.heap.size w0 w' ∧ KeepBut w w' g none := by
 have hu27 := Tryd.underlying27
 have HI0 := Aside0.mk hI
 have HK := Aside0.mk (KeepBut.refl w g none)
 have HL := Aside0.mk hB.size
 clear hI
 have HW0 := Aside0.mk hB.size
 have HB := Aside0.mk hB
 clear hB
 have H : ((spec_l1Int.f s0_0 s0_1 s0_2 (([3, 10, 20] : List Int))).bind fun bt177 => ((spec_l1Below.f s0_0 bt177.2.1 bt177.2.2 7).bind fun bt180 => (if bt180.1 = 0 then (some (1, 0, 0, ([] : List (S27)), bt180.2.1, bt180.2.2)) else (if bt180.1 = 1 then (spec_l15Leaf.j0 k bt177.1 bt180.1 (bt180.1 == 1) s0_0 bt180.2.1 bt180.2.2) else (spec_l15Leaf.j0 k bt177.1 bt180.1 (bt180.1 == 2) s0_0 bt180.2.1 bt180.2.2))))) = some (r1, r2, r3, r4, r5, r6) := h
 clear h
 obtain ⟨y174, hy174⟩ : ∃ y_ : List Int, y_ = (([3, 10, 20] : List Int)) := ⟨_, rfl⟩
 replace H : ((spec_l1Int.f s0_0 s0_1 s0_2 y174).bind fun bt177 => ((spec_l1Below.f s0_0 bt177.2.1 bt177.2.2 7).bind fun bt180 => (if bt180.1 = 0 then (some (1, 0, 0, ([] : List (S27)), bt180.2.1, bt180.2.2)) else (if bt180.1 = 1 then (spec_l15Leaf.j0 k bt177.1 bt180.1 (bt180.1 == 1) s0_0 bt180.2.1 bt180.2.2) else (spec_l15Leaf.j0 k bt177.1 bt180.1 (bt180.1 == 2) s0_0 bt180.2.1 bt180.2.2))))) = some (r1, r2, r3, r4, r5, r6) := by first | (rw [hy174]; with_reducible exact H) | (have H2_ := (Option.bind_some _ _).symm.trans H; rw [hy174]; with_reducible exact H2_) | (have H2_ := (Option.bind_some _ _).symm.trans H; with_reducible exact H2_) | with_reducible exact H | (rw [hy174]; exact H) | exact H
 have Ny174 := Aside0.mk hy174
 clear hy174
 obtain ⟨⟨t177, t178, t179⟩, A2, H⟩ := bA H
 dsimp only at H
 obtain ⟨⟨t180, t181, t182⟩, A3, H⟩ := bA H
 dsimp only at H
 by_cases c4 : t180 = 0
 ·rw [if_pos c4] at H
  have c4b0 : (t180 == 0) = true := beq_iff_eq.mpr c4
  have c4b1 : (t180 != 0) = false := bne_eq_false_iff_eq.mpr c4
  clear c4
  simp only [Option.some.injEq, Prod.mk.injEq] at H
  obtain ⟨rfl, rfl, rfl, rfl, rfl, rfl⟩ := H
  go_enter Tryd.func29, Tryd.ntmps29
  go_wp2_with (first | ((with_reducible refine gate_dst (N := 2) rfl ?_); refine bx (N := 2) (cs := #[.int .i64 0, .int .i64 0, .int .i64 0, .slice none 0 0]) (t := 27) ?_; intro gb173 hg w5 hbox hb; replace HB := Aside0.mk (below_step sqj hb); have BK173 := Aside0.mk (hbox); have GW173 := Aside0.mk ((by rw [hg]; exact (keep_size (w := w) (g := g) (row := none) sqp) : w.heap.size ≤ gb173)); have GE173 := Aside0.mk ((Nat.le_trans HW0.out (by rw [hg]; exact (keep_size (w := w) (g := g) (row := none) sqp) : w.heap.size ≤ gb173) : w0.heap.size ≤ gb173)); replace HK := Aside0.mk (KeepBut.trans sqp (KeepBut.of_below hb g none) (.inl rfl)); have NB0_173 := Aside0.mk ((by rw [hg]; exact Nat.ne_of_lt (IsS48.lt (show IsS48 w0 _ g s0_0 s0_1 s0_2 from sqi)) : g ≠ gb173)); have NB173_0 := Aside0.mk ((by rw [hg]; exact Nat.ne_of_gt (IsS48.lt (show IsS48 w0 _ g s0_0 s0_1 s0_2 from sqi)) : gb173 ≠ g)); replace HI0 := Aside0.mk (IsS48.below sqi hb); clear hb hbox hg) | ((with_reducible refine gate_dst (N := 5) rfl ?_); refine Kd.R_lit (Kd.int .i64) _ 3 ?hg (N := 5) ?hd (xs := ([3, 10, 20] : List Int)) (inner := [.int .i64 3, .int .i64 10, .int .i64 20]) (ok := fun _ => True) (okp := fun _ => True) ?hr ?hp (fun _ hk => hk) trivial (Below.refl _ _) (Nat.le_refl _) (by simp) ?_; (case hd => rfl); (case hg => rfl); (case hr => first | (go_simp; done) | (go_simp; rfl)); (case hp => exact (Reps.one (show Kd.M (Kd.int .i64) _ _ _ 3 [.int .i64 3] from rfl) (Reps.one (show Kd.M (Kd.int .i64) _ _ _ 10 [.int .i64 10] from rfl) (Reps.one (show Kd.M (Kd.int .i64) _ _ _ 20 [.int .i64 20] from rfl) (Reps.none _ _))))); intro v175 w6 ho7 hb hg_ hnew_; clear hg_ hnew_; (first | rw [← Ny174.out] at ho7 | (simp only [Int.reduceToNat] at ho7; rw [← Ny174.out] at ho7)); have HO176 := Aside0.mk (Kd.R_lower ho7 (keep_size (w := w) (g := g) (row := none) z29_0)); replace BK173 := Aside0.mk (blk_below (bo BK173) hb); replace HK := Aside0.mk (KeepBut.trans z29_0 (KeepBut.of_below hb g none) (.inl rfl)); replace HB := Aside0.mk (below_step sqj hb); replace HI0 := Aside0.mk (IsS48.below sqi hb); clear hb ho7; obtain ⟨Ao8, co8, eo8⟩ := Kd.R_slice HO176.out; subst eo8) | ((with_reducible refine gate_callee (f := 28) rfl ?_); refine goesL_ (some 6) rfl rfl Tryd.func28 sqk rfl #[.pointer (some ⟨g, 0, none⟩), .slice Ao8 y174.length co8] rfl sqm ?_; (with_reducible refine (spec_l1Int.calls g s0_0 s0_1 s0_2 _ _ y174 t177 t178 t179 w0 _ ?side1 ?side2 ?side3 ?side4 ?side5 A2.out).mono ?_); (case side1 => exact sqi); (case side2 => exact sqj); (case side3 => repeat (first | exact (Kd.R_reads' HO176.out).2.2 | (with_reducible refine Kd.C_alloc ?_ _) | (with_reducible refine Kd.C_drewN ?_ _) | (with_reducible refine Kd.C_drew ?_))); (case side4 => exact (Kd.R_reads' HO176.out).2.1); (case side5 => exact far_slice (IsS48.own_ne HI0.out HO176.out (by decide))); rintro e w9 ⟨rfl, hi, hb, hk⟩; refine ⟨_, rfl, ?_⟩; replace BK173 := Aside0.mk (KeepBut.blk hk (g' := gb173) (o := .cells #[.int .i64 0, .int .i64 0, .int .i64 0, .slice none 0 0] 27 (0, 0)) (sqb BK173.out) NB173_0.out (by simp)); replace HO176 := Aside0.mk (Kd.R_mono (Kd.R_keep (IsS48.apart (show IsS48 w0 _ g s0_0 s0_1 s0_2 from sqi) (sqq HO176.out) (by decide)) hk (fun _ h => h.2)) (fun _ h => h.1)); replace HK := Aside0.mk (KeepBut.trans z29_0 hk (.inl rfl)); replace HB := Aside0.mk (hb); replace HI0 := Aside0.mk (hi); (try clear hb); (try clear hk); (try clear hi)) | ((with_reducible refine gate_callee (f := 25) rfl ?_); refine goesL_ (some 8) rfl rfl Tryd.func25 sqk rfl #[.pointer (some ⟨g, 0, none⟩), .int .i64 7] rfl sqm ?_; (with_reducible refine (spec_l1Below.calls g s0_0 t178 t179 7 t180 t181 t182 w0 _ ?side1 ?side2 A3.out).mono ?_); (case side1 => exact sqi); (case side2 => exact sqj); rintro e w10 ⟨rfl, hi, hb, hk⟩; refine ⟨_, rfl, ?_⟩; replace BK173 := Aside0.mk (KeepBut.blk hk (g' := gb173) (o := .cells #[.int .i64 0, .int .i64 0, .int .i64 0, .slice none 0 0] 27 (0, 0)) (sqb BK173.out) NB173_0.out (by simp)); replace HO176 := Aside0.mk (Kd.R_mono (Kd.R_keep (IsS48.apart (show IsS48 w0 _ g s0_0 t178 t179 from sqi) (sqq HO176.out) (by decide)) hk (fun _ h => h.2)) (fun _ h => h.1)); replace HK := Aside0.mk (KeepBut.trans z29_0 hk (.inl rfl)); replace HB := Aside0.mk (hb); replace HI0 := Aside0.mk (hi); (try clear hb); (try clear hk); (try clear hi); have hnb11 := NB173_0.out; have hnc11 := NB0_173.out; obtain ⟨hcz12_0, hcz12_1, hcz12_2, hcz12_3, hfz12_0, hfz12_1, hfz12_2, hfz12_3⟩ := sd4 BK173.out))
  refine bodyPost_ret (results_cell_row rfl _ _ gb173 27 #[.int .i64 1, .int .i64 0, .int .i64 0, .slice none 0 0] (0, 0) _ rfl ?_ Tryd.underlying27 rfl sqk) rfl ?_; exact bp BK173
  exact ⟨_, sqe, by first | exact Kd.R_nil _ _ _ _ _ | exact Kd.N_nil _ _ _ _ _ | exact Kd.V_nil _ _ _ _ _ | exact Kd.Q_nil _ _ _ _ _ | exact Kd.S_nil _ _ _ _ _, sqi, sqj, by repeat (first | (with_reducible first | exact HK.out | apply KeepBut.set_ | apply keep_drewN | apply keep_drew | apply keep_alloc | refine keep_far ?_ GW173.out _) | exact HK.out)⟩
 ·rw [if_neg c4] at H
  have c4b0 : (t180 == 0) = false := beq_eq_false_iff_ne.mpr c4
  have c4b1 : (t180 != 0) = true := bne_iff_ne.mpr c4
  have HC13 := Aside0.mk H
  clear H
  go_enter Tryd.func29, Tryd.ntmps29
  go_upto_if 12 with (first | ((with_reducible refine gate_dst (N := 2) rfl ?_); refine bx (N := 2) (cs := #[.int .i64 0, .int .i64 0, .int .i64 0, .slice none 0 0]) (t := 27) ?_; intro gb173 hg w14 hbox hb; replace HB := Aside0.mk (below_step sqj hb); have BK173 := Aside0.mk (hbox); have GW173 := Aside0.mk ((by rw [hg]; exact (keep_size (w := w) (g := g) (row := none) sqp) : w.heap.size ≤ gb173)); have GE173 := Aside0.mk ((Nat.le_trans HW0.out (by rw [hg]; exact (keep_size (w := w) (g := g) (row := none) sqp) : w.heap.size ≤ gb173) : w0.heap.size ≤ gb173)); replace HK := Aside0.mk (KeepBut.trans sqp (KeepBut.of_below hb g none) (.inl rfl)); have NB0_173 := Aside0.mk ((by rw [hg]; exact Nat.ne_of_lt (IsS48.lt (show IsS48 w0 _ g s0_0 s0_1 s0_2 from sqi)) : g ≠ gb173)); have NB173_0 := Aside0.mk ((by rw [hg]; exact Nat.ne_of_gt (IsS48.lt (show IsS48 w0 _ g s0_0 s0_1 s0_2 from sqi)) : gb173 ≠ g)); replace HI0 := Aside0.mk (IsS48.below sqi hb); clear hb hbox hg) | ((with_reducible refine gate_dst (N := 5) rfl ?_); refine Kd.R_lit (Kd.int .i64) _ 3 ?hg (N := 5) ?hd (xs := ([3, 10, 20] : List Int)) (inner := [.int .i64 3, .int .i64 10, .int .i64 20]) (ok := fun _ => True) (okp := fun _ => True) ?hr ?hp (fun _ hk => hk) trivial (Below.refl _ _) (Nat.le_refl _) (by simp) ?_; (case hd => rfl); (case hg => rfl); (case hr => first | (go_simp; done) | (go_simp; rfl)); (case hp => exact (Reps.one (show Kd.M (Kd.int .i64) _ _ _ 3 [.int .i64 3] from rfl) (Reps.one (show Kd.M (Kd.int .i64) _ _ _ 10 [.int .i64 10] from rfl) (Reps.one (show Kd.M (Kd.int .i64) _ _ _ 20 [.int .i64 20] from rfl) (Reps.none _ _))))); intro v175 w15 ho16 hb hg_ hnew_; clear hg_ hnew_; (first | rw [← Ny174.out] at ho16 | (simp only [Int.reduceToNat] at ho16; rw [← Ny174.out] at ho16)); have HO176 := Aside0.mk (Kd.R_lower ho16 (keep_size (w := w) (g := g) (row := none) z29_0)); replace BK173 := Aside0.mk (blk_below (bo BK173) hb); replace HK := Aside0.mk (KeepBut.trans z29_0 (KeepBut.of_below hb g none) (.inl rfl)); replace HB := Aside0.mk (below_step sqj hb); replace HI0 := Aside0.mk (IsS48.below sqi hb); clear hb ho16; obtain ⟨Ao17, co17, eo17⟩ := Kd.R_slice HO176.out; subst eo17) | ((with_reducible refine gate_callee (f := 28) rfl ?_); refine goesL_ (some 6) rfl rfl Tryd.func28 sqk rfl #[.pointer (some ⟨g, 0, none⟩), .slice Ao17 y174.length co17] rfl sqm ?_; (with_reducible refine (spec_l1Int.calls g s0_0 s0_1 s0_2 _ _ y174 t177 t178 t179 w0 _ ?side1 ?side2 ?side3 ?side4 ?side5 A2.out).mono ?_); (case side1 => exact sqi); (case side2 => exact sqj); (case side3 => repeat (first | exact (Kd.R_reads' HO176.out).2.2 | (with_reducible refine Kd.C_alloc ?_ _) | (with_reducible refine Kd.C_drewN ?_ _) | (with_reducible refine Kd.C_drew ?_))); (case side4 => exact (Kd.R_reads' HO176.out).2.1); (case side5 => exact far_slice (IsS48.own_ne HI0.out HO176.out (by decide))); rintro e w18 ⟨rfl, hi, hb, hk⟩; refine ⟨_, rfl, ?_⟩; replace BK173 := Aside0.mk (KeepBut.blk hk (g' := gb173) (o := .cells #[.int .i64 0, .int .i64 0, .int .i64 0, .slice none 0 0] 27 (0, 0)) (sqb BK173.out) NB173_0.out (by simp)); replace HO176 := Aside0.mk (Kd.R_mono (Kd.R_keep (IsS48.apart (show IsS48 w0 _ g s0_0 s0_1 s0_2 from sqi) (sqq HO176.out) (by decide)) hk (fun _ h => h.2)) (fun _ h => h.1)); replace HK := Aside0.mk (KeepBut.trans z29_0 hk (.inl rfl)); replace HB := Aside0.mk (hb); replace HI0 := Aside0.mk (hi); (try clear hb); (try clear hk); (try clear hi)) | ((with_reducible refine gate_callee (f := 25) rfl ?_); refine goesL_ (some 8) rfl rfl Tryd.func25 sqk rfl #[.pointer (some ⟨g, 0, none⟩), .int .i64 7] rfl sqm ?_; (with_reducible refine (spec_l1Below.calls g s0_0 t178 t179 7 t180 t181 t182 w0 _ ?side1 ?side2 A3.out).mono ?_); (case side1 => exact sqi); (case side2 => exact sqj); rintro e w19 ⟨rfl, hi, hb, hk⟩; refine ⟨_, rfl, ?_⟩; replace BK173 := Aside0.mk (KeepBut.blk hk (g' := gb173) (o := .cells #[.int .i64 0, .int .i64 0, .int .i64 0, .slice none 0 0] 27 (0, 0)) (sqb BK173.out) NB173_0.out (by simp)); replace HO176 := Aside0.mk (Kd.R_mono (Kd.R_keep (IsS48.apart (show IsS48 w0 _ g s0_0 t178 t179 from sqi) (sqq HO176.out) (by decide)) hk (fun _ h => h.2)) (fun _ h => h.1)); replace HK := Aside0.mk (KeepBut.trans z29_0 hk (.inl rfl)); replace HB := Aside0.mk (hb); replace HI0 := Aside0.mk (hi); (try clear hb); (try clear hk); (try clear hi)))
  (try simp only [Act.put, List.setIfInBounds_toArray, List.set_cons_zero, List.set_cons_succ])
  go_cut [12] (fun v12 wc => ∃ (kq : Nat) (x12_12 : Bool), v12 = .bool x12_12 ∧ Aside0 (spec_l15Leaf.j0 kq t177 t180 x12_12 s0_0 t181 t182 = some (r1, r2, r3, r4, r5, r6)) ∧ Aside0 (kq ≤ k) ∧ Aside0 (wc.heap[gb173]? = some (.cells #[.int .i64 0, .int .i64 0, .int .i64 0, (.slice none 0 0)] 27 (0, 0))) ∧ Aside0 (IsS48 w0 wc g s0_0 t181 t182) ∧ Aside0 (KeepBut w wc g none) ∧ Aside0 (Below w0.heap.size w0 wc))
  case first =>
   have H := HC13.out
   clear HC13
   by_cases c20 : t180 = 1
   ·rw [if_pos c20] at H
    have c20b0 : (t180 == 1) = true := beq_iff_eq.mpr c20
    have c20b1 : (t180 != 1) = false := bne_eq_false_iff_eq.mpr c20
    clear c20
    (first | rw [c20b0] | (simp only [i64_w, i32_w]; rw [c20b0]) | skip)
    have H' := Aside0.mk H
    clear H
    go_wp2
    go_meet
    case rel => exact ⟨_, ((t180 == 1)), sqr, H', ⟨sqo⟩, ⟨sqb BK173.out⟩, ⟨sqi⟩, ⟨by repeat (first | (with_reducible first | exact HK.out | apply KeepBut.set_ | apply keep_drewN | apply keep_drew | apply keep_alloc | refine keep_far ?_ GW173.out _) | exact HK.out)⟩, ⟨sqj⟩⟩
   ·rw [if_neg c20] at H
    have c20b0 : (t180 == 1) = false := beq_eq_false_iff_ne.mpr c20
    have c20b1 : (t180 != 1) = true := bne_iff_ne.mpr c20
    (first | rw [c20b0] | (simp only [i64_w, i32_w]; rw [c20b0]) | skip)
    have H' := Aside0.mk H
    clear H
    go_wp2
    go_meet
    case rel => exact ⟨_, ((t180 == 2)), sqr, H', ⟨sqo⟩, ⟨sqb BK173.out⟩, ⟨sqi⟩, ⟨by repeat (first | (with_reducible first | exact HK.out | apply KeepBut.set_ | apply keep_drewN | apply keep_drew | apply keep_alloc | refine keep_far ?_ GW173.out _) | exact HK.out)⟩, ⟨sqj⟩⟩
  case rest =>
   clear HC13; try clear c1; try clear c2; try clear p2; try clear c4; try clear c4b0; try clear c4b1; try clear c11; try clear c20; try clear c20b0; try clear c20b1; try clear hcz12_0; try clear hcz12_1; try clear hcz12_2; try clear hcz12_3; try clear hfz12_0; try clear hfz12_1; try clear hfz12_2; try clear hfz12_3
   obtain ⟨kq, x12_12, rfl, HA, HJ12, BK173, HI0, HK, HB⟩ := hcut
   cases kq with
   | zero => exact absurd HA.out (by simp [spec_l15Leaf.j0])
   | succ kj12 =>
    have H := HA.out
    clear HA
    simp only [spec_l15Leaf.j0] at H
    by_cases c21 : x12_12 = true
    ·subst c21
     replace H := iT H
     obtain ⟨⟨t183, t184, t185⟩, A22, H⟩ := bA H
     dsimp only at H
     simp only [Option.some.injEq, Prod.mk.injEq] at H
     obtain ⟨rfl, rfl, rfl, rfl, rfl, rfl⟩ := H
     go_wp2_with (first | ((with_reducible refine gate_callee (f := 25) rfl ?_); refine goesL_ (some 16) rfl rfl Tryd.func25 sqk rfl #[.pointer (some ⟨g, 0, none⟩), .int .i64 3] rfl sqm ?_; (with_reducible refine (spec_l1Below.calls g s0_0 t181 t182 3 t183 t184 t185 w0 _ ?side1 ?side2 A22.out).mono ?_); (case side1 => exact sqi); (case side2 => exact sqj); rintro e w23 ⟨rfl, hi, hb, hk⟩; refine ⟨_, rfl, ?_⟩; replace BK173 := Aside0.mk (KeepBut.blk hk (g' := gb173) (o := .cells #[.int .i64 0, .int .i64 0, .int .i64 0, .slice none 0 0] 27 (0, 0)) (sqb BK173.out) NB173_0.out (by simp)); replace HK := Aside0.mk (KeepBut.trans z29_0 hk (.inl rfl)); replace HB := Aside0.mk (hb); replace HI0 := Aside0.mk (hi); (try clear hb); (try clear hk); (try clear hi); have hnb24 := NB173_0.out; have hnc24 := NB0_173.out; obtain ⟨hcz25_0, hcz25_1, hcz25_2, hcz25_3, hfz25_0, hfz25_1, hfz25_2, hfz25_3⟩ := sd4 BK173.out))
     refine bodyPost_ret (results_cell_row rfl _ _ gb173 27 #[.int .i64 2, .int .i64 t183, .int .i64 t177, .slice none 0 0] (0, 0) _ rfl ?_ Tryd.underlying27 rfl sqk) rfl ?_; exact bp BK173
     exact ⟨_, sqe, by first | exact Kd.R_nil _ _ _ _ _ | exact Kd.N_nil _ _ _ _ _ | exact Kd.V_nil _ _ _ _ _ | exact Kd.Q_nil _ _ _ _ _ | exact Kd.S_nil _ _ _ _ _, sqi, sqj, by repeat (first | (with_reducible first | exact HK.out | apply KeepBut.set_ | apply keep_drewN | apply keep_drew | apply keep_alloc | refine keep_far ?_ GW173.out _) | exact HK.out)⟩
    ·replace c21 := Bool.eq_false_iff.mpr c21
     subst c21
     replace H := iF H
     by_cases c26 : t180 = 3
     ·rw [if_pos c26] at H
      have c26b0 : (t180 == 3) = true := beq_iff_eq.mpr c26
      have c26b1 : (t180 != 3) = false := bne_eq_false_iff_eq.mpr c26
      clear c26
      simp only [Option.some.injEq, Prod.mk.injEq] at H
      obtain ⟨rfl, rfl, rfl, rfl, rfl, rfl⟩ := H
      have hnb27 := NB173_0.out
      have hnc27 := NB0_173.out
      obtain ⟨hcz28_0, hcz28_1, hcz28_2, hcz28_3, hfz28_0, hfz28_1, hfz28_2, hfz28_3⟩ := sd4 BK173.out
      go_wp2
      refine bodyPost_ret (results_cell_row rfl _ _ gb173 27 #[.int .i64 3, .int .i64 0, .int .i64 t177, .slice none 0 0] (0, 0) _ rfl ?_ Tryd.underlying27 rfl sqk) rfl ?_; exact bp BK173
      exact ⟨_, sqe, by first | exact Kd.R_nil _ _ _ _ _ | exact Kd.N_nil _ _ _ _ _ | exact Kd.V_nil _ _ _ _ _ | exact Kd.Q_nil _ _ _ _ _ | exact Kd.S_nil _ _ _ _ _, sqi, sqj, by repeat (first | (with_reducible first | exact HK.out | apply KeepBut.set_ | apply keep_drewN | apply keep_drew | apply keep_alloc | refine keep_far ?_ GW173.out _) | exact HK.out)⟩
     ·rw [if_neg c26] at H
      have c26b0 : (t180 == 3) = false := beq_eq_false_iff_ne.mpr c26
      have c26b1 : (t180 != 3) = true := bne_iff_ne.mpr c26
      by_cases c29 : t180 = 4
      ·rw [if_pos c29] at H
       have c29b0 : (t180 == 4) = true := beq_iff_eq.mpr c29
       have c29b1 : (t180 != 4) = false := bne_eq_false_iff_eq.mpr c29
       clear c29
       obtain ⟨⟨t186, t187, t188⟩, A30, H⟩ := bA H
       dsimp only at H
       simp only [Option.some.injEq, Prod.mk.injEq] at H
       obtain ⟨rfl, rfl, rfl, rfl, rfl, rfl⟩ := H
       go_wp2_with (first | ((with_reducible refine gate_callee (f := 25) rfl ?_); refine goesL_ (some 26) rfl rfl Tryd.func25 sqk rfl #[.pointer (some ⟨g, 0, none⟩), .int .i64 3] rfl sqm ?_; (with_reducible refine (spec_l1Below.calls g s0_0 t181 t182 3 t186 t187 t188 w0 _ ?side1 ?side2 A30.out).mono ?_); (case side1 => exact sqi); (case side2 => exact sqj); rintro e w31 ⟨rfl, hi, hb, hk⟩; refine ⟨_, rfl, ?_⟩; replace BK173 := Aside0.mk (KeepBut.blk hk (g' := gb173) (o := .cells #[.int .i64 0, .int .i64 0, .int .i64 0, .slice none 0 0] 27 (0, 0)) (sqb BK173.out) NB173_0.out (by simp)); replace HK := Aside0.mk (KeepBut.trans z29_0 hk (.inl rfl)); replace HB := Aside0.mk (hb); replace HI0 := Aside0.mk (hi); (try clear hb); (try clear hk); (try clear hi); have hnb32 := NB173_0.out; have hnc32 := NB0_173.out; obtain ⟨hcz33_0, hcz33_1, hcz33_2, hcz33_3, hfz33_0, hfz33_1, hfz33_2, hfz33_3⟩ := sd4 BK173.out))
       refine bodyPost_ret (results_cell_row rfl _ _ gb173 27 #[.int .i64 4, .int .i64 (wrap64 (1 + t186)), .int .i64 t177, .slice none 0 0] (0, 0) _ rfl ?_ Tryd.underlying27 rfl sqk) rfl ?_; exact bp BK173
       exact ⟨_, sqe, by first | exact Kd.R_nil _ _ _ _ _ | exact Kd.N_nil _ _ _ _ _ | exact Kd.V_nil _ _ _ _ _ | exact Kd.Q_nil _ _ _ _ _ | exact Kd.S_nil _ _ _ _ _, sqi, sqj, by repeat (first | (with_reducible first | exact HK.out | apply KeepBut.set_ | apply keep_drewN | apply keep_drew | apply keep_alloc | refine keep_far ?_ GW173.out _) | exact HK.out)⟩
      ·rw [if_neg c29] at H
       have c29b0 : (t180 == 4) = false := beq_eq_false_iff_ne.mpr c29
       have c29b1 : (t180 != 4) = true := bne_iff_ne.mpr c29
       by_cases c34 : t180 = 5
       ·rw [if_pos c34] at H
        have c34b0 : (t180 == 5) = true := beq_iff_eq.mpr c34
        have c34b1 : (t180 != 5) = false := bne_eq_false_iff_eq.mpr c34
        clear c34
        obtain ⟨⟨t189, t190, t191⟩, A35, H⟩ := bA H
        dsimp only at H
        simp only [Option.some.injEq, Prod.mk.injEq] at H
        obtain ⟨rfl, rfl, rfl, rfl, rfl, rfl⟩ := H
        go_wp2_with (first | ((with_reducible refine gate_callee (f := 25) rfl ?_); refine goesL_ (some 33) rfl rfl Tryd.func25 sqk rfl #[.pointer (some ⟨g, 0, none⟩), .int .i64 2] rfl sqm ?_; (with_reducible refine (spec_l1Below.calls g s0_0 t181 t182 2 t189 t190 t191 w0 _ ?side1 ?side2 A35.out).mono ?_); (case side1 => exact sqi); (case side2 => exact sqj); rintro e w36 ⟨rfl, hi, hb, hk⟩; refine ⟨_, rfl, ?_⟩; replace BK173 := Aside0.mk (KeepBut.blk hk (g' := gb173) (o := .cells #[.int .i64 0, .int .i64 0, .int .i64 0, .slice none 0 0] 27 (0, 0)) (sqb BK173.out) NB173_0.out (by simp)); replace HK := Aside0.mk (KeepBut.trans z29_0 hk (.inl rfl)); replace HB := Aside0.mk (hb); replace HI0 := Aside0.mk (hi); (try clear hb); (try clear hk); (try clear hi); have hnb37 := NB173_0.out; have hnc37 := NB0_173.out; obtain ⟨hcz38_0, hcz38_1, hcz38_2, hcz38_3, hfz38_0, hfz38_1, hfz38_2, hfz38_3⟩ := sd4 BK173.out))
        refine bodyPost_ret (results_cell_row rfl _ _ gb173 27 #[.int .i64 5, .int .i64 (wrap64 (1 + t189)), .int .i64 t177, .slice none 0 0] (0, 0) _ rfl ?_ Tryd.underlying27 rfl sqk) rfl ?_; exact bp BK173
        exact ⟨_, sqe, by first | exact Kd.R_nil _ _ _ _ _ | exact Kd.N_nil _ _ _ _ _ | exact Kd.V_nil _ _ _ _ _ | exact Kd.Q_nil _ _ _ _ _ | exact Kd.S_nil _ _ _ _ _, sqi, sqj, by repeat (first | (with_reducible first | exact HK.out | apply KeepBut.set_ | apply keep_drewN | apply keep_drew | apply keep_alloc | refine keep_far ?_ GW173.out _) | exact HK.out)⟩
       ·rw [if_neg c34] at H
        have c34b0 : (t180 == 5) = false := beq_eq_false_iff_ne.mpr c34
        have c34b1 : (t180 != 5) = true := bne_iff_ne.mpr c34
        obtain ⟨y192, hy192⟩ : ∃ y_ : List Int, y_ = (([5, 15, 25] : List Int)) := ⟨_, rfl⟩
        replace H : ((spec_l1Int.f s0_0 t181 t182 y192).bind fun bt195 => (some (6, bt195.1, 0, ([] : List (S27)), bt195.2.1, bt195.2.2))) = some (r1, r2, r3, r4, r5, r6) := by first | (rw [hy192]; with_reducible exact H) | (have H2_ := (Option.bind_some _ _).symm.trans H; rw [hy192]; with_reducible exact H2_) | (have H2_ := (Option.bind_some _ _).symm.trans H; with_reducible exact H2_) | with_reducible exact H | (rw [hy192]; exact H) | exact H
        have Ny192 := Aside0.mk hy192
        clear hy192
        obtain ⟨⟨t195, t196, t197⟩, A39, H⟩ := bA H
        dsimp only at H
        simp only [Option.some.injEq, Prod.mk.injEq] at H
        obtain ⟨rfl, rfl, rfl, rfl, rfl, rfl⟩ := H
        go_wp2_with (first | ((with_reducible refine gate_dst (N := 38) rfl ?_); refine Kd.R_lit (Kd.int .i64) _ 3 ?hg (N := 38) ?hd (xs := ([5, 15, 25] : List Int)) (inner := [.int .i64 5, .int .i64 15, .int .i64 25]) (ok := fun _ => True) (okp := fun _ => True) ?hr ?hp (fun _ hk => hk) trivial (Below.refl _ _) (Nat.le_refl _) (by simp) ?_; (case hd => rfl); (case hg => rfl); (case hr => first | (go_simp; done) | (go_simp; rfl)); (case hp => exact (Reps.one (show Kd.M (Kd.int .i64) _ _ _ 5 [.int .i64 5] from rfl) (Reps.one (show Kd.M (Kd.int .i64) _ _ _ 15 [.int .i64 15] from rfl) (Reps.one (show Kd.M (Kd.int .i64) _ _ _ 25 [.int .i64 25] from rfl) (Reps.none _ _))))); intro v193 w40 ho41 hb hg_ hnew_; clear hg_ hnew_; (first | rw [← Ny192.out] at ho41 | (simp only [Int.reduceToNat] at ho41; rw [← Ny192.out] at ho41)); have HO194 := Aside0.mk (Kd.R_lower ho41 (keep_size (w := w) (g := g) (row := none) z29_0)); replace BK173 := Aside0.mk (blk_below (bo BK173) hb); replace HK := Aside0.mk (KeepBut.trans z29_0 (KeepBut.of_below hb g none) (.inl rfl)); replace HB := Aside0.mk (below_step sqj hb); replace HI0 := Aside0.mk (IsS48.below sqi hb); clear hb ho41; obtain ⟨Ao42, co42, eo42⟩ := Kd.R_slice HO194.out; subst eo42) | ((with_reducible refine gate_callee (f := 28) rfl ?_); refine goesL_ (some 39) rfl rfl Tryd.func28 sqk rfl #[.pointer (some ⟨g, 0, none⟩), .slice Ao42 y192.length co42] rfl sqm ?_; (with_reducible refine (spec_l1Int.calls g s0_0 t181 t182 _ _ y192 t195 t196 t197 w0 _ ?side1 ?side2 ?side3 ?side4 ?side5 A39.out).mono ?_); (case side1 => exact sqi); (case side2 => exact sqj); (case side3 => repeat (first | exact (Kd.R_reads' HO194.out).2.2 | (with_reducible refine Kd.C_alloc ?_ _) | (with_reducible refine Kd.C_drewN ?_ _) | (with_reducible refine Kd.C_drew ?_))); (case side4 => exact (Kd.R_reads' HO194.out).2.1); (case side5 => exact far_slice (IsS48.own_ne HI0.out HO194.out (by decide))); rintro e w43 ⟨rfl, hi, hb, hk⟩; refine ⟨_, rfl, ?_⟩; replace BK173 := Aside0.mk (KeepBut.blk hk (g' := gb173) (o := .cells #[.int .i64 0, .int .i64 0, .int .i64 0, .slice none 0 0] 27 (0, 0)) (sqb BK173.out) NB173_0.out (by simp)); replace HO194 := Aside0.mk (Kd.R_mono (Kd.R_keep (IsS48.apart (show IsS48 w0 _ g s0_0 t181 t182 from sqi) (sqq HO194.out) (by decide)) hk (fun _ h => h.2)) (fun _ h => h.1)); replace HK := Aside0.mk (KeepBut.trans z29_0 hk (.inl rfl)); replace HB := Aside0.mk (hb); replace HI0 := Aside0.mk (hi); (try clear hb); (try clear hk); (try clear hi); have hnb44 := NB173_0.out; have hnc44 := NB0_173.out; obtain ⟨hcz45_0, hcz45_1, hcz45_2, hcz45_3, hfz45_0, hfz45_1, hfz45_2, hfz45_3⟩ := sd4 BK173.out))
        refine bodyPost_ret (results_cell_row rfl _ _ gb173 27 #[.int .i64 6, .int .i64 t195, .int .i64 0, .slice none 0 0] (0, 0) _ rfl ?_ Tryd.underlying27 rfl sqk) rfl ?_; exact bp BK173
        exact ⟨_, sqe, by first | exact Kd.R_nil _ _ _ _ _ | exact Kd.N_nil _ _ _ _ _ | exact Kd.V_nil _ _ _ _ _ | exact Kd.Q_nil _ _ _ _ _ | exact Kd.S_nil _ _ _ _ _, sqi, sqj, by repeat (first | (with_reducible first | exact HK.out | apply KeepBut.set_ | apply keep_drewN | apply keep_drew | apply keep_alloc | refine keep_far ?_ GW173.out _) | exact HK.out)⟩

/-! ### spec_l15Copy: function 52 -/
mutual
def spec_l15Copy.l0 : Nat → Int → Int → Int → Int → List (S27) → Int → Int → Int → List (S27) → Option (Int × Int × Int × (List (S27)))
 | 0, _, _, _, _, _, _, _, _, _ => none
 | k + 1, x4, x199000, x199001, x199002, x199003, x201000, x201001, x201002, x201003 => if x4 < (x199003.length : Int) then (if 0 ≤ x4 then ((spec_l15Copy.f k ((rd_T27 x199003 x4).f0) ((rd_T27 x199003 x4).f1) ((rd_T27 x199003 x4).f2) ((rd_T27 x199003 x4).f3)).bind fun bt202 => (if x201003.length < 2932031007402 then (spec_l15Copy.l0 k (wrap64 (x4 + 1)) x199000 x199001 x199002 x199003 x201000 x201001 x201002 (x201003 ++ [(⟨bt202.1, bt202.2.1, bt202.2.2.1, bt202.2.2.2⟩ : S27)])) else (none))) else (none)) else (some (x201000, x201001, x201002, x201003))
def spec_l15Copy.f : Nat → Int → Int → Int → List (S27) → Option (Int × Int × Int × (List (S27)))
 | 0, _, _, _, _ => none
 | k + 1, a0_0, a0_1, a0_2, l0_3 => spec_l15Copy.l0 k 0 a0_0 a0_1 a0_2 l0_3 a0_0 a0_1 a0_2 ([] : List (S27))
end
def spec_l15Copy.T5 : Bool × List (List Nat × List Nat) := (true, [([], []), ([0], [0]), ([], []), ([2], [2]), ([], []), ([3, 4], [3, 4]), ([5], [5]), ([6], [6]), ([7], [7]), ([1, 8, 7], [1, 8]), ([0, 1, 2, 3, 4, 5, 6, 7, 8, 9], []), ([10, 9, 9, 0, 1, 2, 3, 4, 5, 6, 7, 8, 9], [9, 10])])
def spec_l15Copy.B5 : List Nat := [0, 1, 0, 4, 0, 28, 60, 124, 252, 511, 1023, 2047]
theorem spec_l15Copy.tab5 : rtab .any (opsOf Tryd.f52 5) = spec_l15Copy.T5 := by kernel_rfl
theorem spec_l15Copy.bits5 : waitsOk spec_l15Copy.T5.2 spec_l15Copy.B5 = true := by kernel_rfl
set_option maxHeartbeats 8000000 in
set_option maxRecDepth 100000 in
theorem spec_l15Copy.calls (k : Nat) : ∀ (a0_0 : Int) (a0_1 : Int) (a0_2 : Int) (A0_3 : Option Addr) (c0_3 : Nat) (l0_3 : List (S27)) (r1 : Int) (r2 : Int) (r3 : Int) (r4 : List (S27)) (w : World) (hr0_3 : Kd.C k27 w A0_3 l0_3.length l0_3) (hc0_3 : l0_3.length ≤ c0_3) (h : spec_l15Copy.f k a0_0 a0_1 a0_2 l0_3 = some (r1, r2, r3, r4)),
  Calls Tryd.prog 52 #[.agg #[.int .i64 a0_0, .int .i64 a0_1, .int .i64 a0_2, .slice A0_3 l0_3.length c0_3]] w fun e w' => ∃ v3_ : Value, e = .returned (.agg #[.int .i64 r1, .int .i64 r2, .int .i64 r3, v3_]) ∧ Kd.R k27 27 w' w.heap.size (fun _ => True) v3_ r4 ∧ Below w.heap.size w w' := by
 induction k using Nat.strongRecOn with
 | _ k ih =>
 intro a0_0 a0_1 a0_2 A0_3 c0_3 l0_3 r1 r2 r3 r4 w hr0_3 hc0_3 h
 cases k with
 | zero => exact absurd h (by simp [spec_l15Copy.f])
 | succ k =>
 simp only [spec_l15Copy.f] at h
 have hu27 := Tryd.underlying27
 have HR0_3 := Aside0.mk hr0_3
 have HC0_3 := Aside0.mk hc0_3
 clear hr0_3 hc0_3
 have HB := Aside0.mk (Below.refl w.heap.size w)
 have H : (spec_l15Copy.l0 k 0 a0_0 a0_1 a0_2 l0_3 a0_0 a0_1 a0_2 ([] : List (S27))) = some (r1, r2, r3, r4) := h
 clear h
 have H' := Aside0.mk H
 clear H
 go_enter Tryd.func52, Tryd.ntmps52
 go_wp2_with (first | ((with_reducible refine gate_dst (N := 1) rfl ?_); refine bx (N := 1) (cs := #[.int .i64 a0_0, .int .i64 a0_1, .int .i64 a0_2, .slice A0_3 l0_3.length c0_3]) (t := 27) ?_; intro gb198 hg w2 hbox hb; have BK198 := Aside0.mk (hbox); have GW198 := Aside0.mk ((by rw [hg]; exact (below_size sqh) : w.heap.size ≤ gb198)); have GE198 := Aside0.mk ((by rw [hg]; exact (below_size sqh) : w.heap.size ≤ gb198)); replace HB := Aside0.mk (below_step sqh hb); clear hb hbox hg) | ((with_reducible refine gate_dst (N := 2) rfl ?_); refine bx (N := 2) (cs := #[.int .i64 0, .int .i64 0, .int .i64 0, .slice none 0 0]) (t := 27) ?_; intro gb199 hg w3 hbox hb; have BK199 := Aside0.mk (hbox); have GW199 := Aside0.mk ((by rw [hg]; exact (below_size sqh) : w.heap.size ≤ gb199)); have GE199 := Aside0.mk ((by rw [hg]; exact (below_size sqh) : w.heap.size ≤ gb199)); replace HB := Aside0.mk (below_step sqh hb); have NB198_199 := Aside0.mk ((by rw [hg]; exact Nat.ne_of_lt (blk_lt (bo BK198)) : gb198 ≠ gb199)); have NB199_198 := Aside0.mk ((by rw [hg]; exact Nat.ne_of_gt (blk_lt (bo BK198)) : gb199 ≠ gb198)); replace BK198 := Aside0.mk (blk_below (bo BK198) hb); clear hb hbox hg; have hnb4 := NB198_199.out; have hnc4 := NB199_198.out; obtain ⟨hcz5_0, hcz5_1, hcz5_2, hcz5_3, hfz5_0, hfz5_1, hfz5_2, hfz5_3⟩ := sd4 BK198.out) | ((with_reducible refine gate_dst (N := 3) rfl ?_); refine bx (N := 3) (cs := #[.int .i64 0, .int .i64 0, .int .i64 0, .slice none 0 0]) (t := 27) ?_; intro gb200 hg w6 hbox hb; have BK200 := Aside0.mk (hbox); have GW200 := Aside0.mk ((by rw [hg]; exact (below_size sqh) : w.heap.size ≤ gb200)); have GE200 := Aside0.mk ((by rw [hg]; exact (below_size sqh) : w.heap.size ≤ gb200)); replace HB := Aside0.mk (below_step sqh hb); have NB198_200 := Aside0.mk ((by rw [hg]; exact Nat.ne_of_lt (blk_lt (bo BK198)) : gb198 ≠ gb200)); have NB200_198 := Aside0.mk ((by rw [hg]; exact Nat.ne_of_gt (blk_lt (bo BK198)) : gb200 ≠ gb198)); replace BK198 := Aside0.mk (blk_below (bo BK198) hb); have NB199_200 := Aside0.mk ((by rw [hg]; exact Nat.ne_of_lt (blk_lt (bo BK199)) : gb199 ≠ gb200)); have NB200_199 := Aside0.mk ((by rw [hg]; exact Nat.ne_of_gt (blk_lt (bo BK199)) : gb200 ≠ gb199)); replace BK199 := Aside0.mk (blk_below (bo BK199) hb); clear hb hbox hg; have hnb7 := NB200_198.out; have hnc7 := NB198_200.out; have hnb8 := NB200_199.out; have hnc8 := NB199_200.out; obtain ⟨hcz9_0, hcz9_1, hcz9_2, hcz9_3, hfz9_0, hfz9_1, hfz9_2, hfz9_3⟩ := sd4 BK200.out))
 go_loopg [4] k (fun kq v4 w' => ∃ (x4_1 : Int) (x201003_1 : List (S27)) (u201003 : Value), v4 = .int .i64 x4_1 ∧ Aside0 (spec_l15Copy.l0 kq x4_1 a0_0 a0_1 a0_2 l0_3 a0_0 a0_1 a0_2 x201003_1 = some (r1, r2, r3, r4)) ∧ Aside0 (kq ≤ k) ∧ Aside0 (Kd.R k27 27 w' w.heap.size (fun k_ => k_ ≠ gb198 ∧ k_ ≠ gb199 ∧ k_ ≠ gb200) u201003 x201003_1) ∧ Aside0 (w'.heap[gb198]? = some (.cells #[.int .i64 a0_0, .int .i64 a0_1, .int .i64 a0_2, (.slice A0_3 l0_3.length c0_3)] 27 (0, 0))) ∧ Aside0 (w'.heap[gb199]? = some (.cells #[.int .i64 0, .int .i64 0, .int .i64 0, (.slice none 0 0)] 27 (0, 0))) ∧ Aside0 (w'.heap[gb200]? = some (.cells #[.int .i64 a0_0, .int .i64 a0_1, .int .i64 a0_2, u201003] 27 (0, 0))) ∧ Aside0 (Below w.heap.size w w'))
 case atStart => exact ⟨(0), (([] : List (S27))), (.slice none 0 0), sqr, H', ⟨Nat.le_refl _⟩, ⟨by first | exact Kd.R_nil _ _ _ _ _ | exact Kd.N_nil _ _ _ _ _ | exact Kd.V_nil _ _ _ _ _ | exact Kd.Q_nil _ _ _ _ _ | exact Kd.S_nil _ _ _ _ _⟩, ⟨bp BK198⟩, ⟨bp BK199⟩, ⟨bp BK200⟩, ⟨sqh⟩⟩
 case round =>
  clear H'; try clear p2; try clear c4; try clear c5; try clear c7; try clear c8; try clear hcz5_0; try clear hcz5_1; try clear hcz5_2; try clear hcz5_3; try clear hcz9_0; try clear hcz9_1; try clear hcz9_2; try clear hcz9_3; try clear hfz5_0; try clear hfz5_1; try clear hfz5_2; try clear hfz5_3; try clear hfz9_0; try clear hfz9_1; try clear hfz9_2; try clear hfz9_3
  obtain ⟨x4_1, x201003_1, u201003, rfl, HA, HK1, HO_201003, BK198, BK199, BK200, HB⟩ := hrel
  cases gk with
  | zero => exact absurd HA.out (by simp [spec_l15Copy.l0])
  | succ k1 =>
   have H := HA.out
   clear HA
   simp only [spec_l15Copy.l0] at H
   by_cases c10 : x4_1 < (l0_3.length : Int)
   ·rw [if_pos c10] at H
    have c10b0 : decide (x4_1 < (l0_3.length : Int)) = true := decide_eq_true c10
    clear c10
    by_cases c11 : 0 ≤ x4_1
    ·rw [if_pos c11] at H
     have c11b0 : decide (0 ≤ x4_1) = true := decide_eq_true c11
     clear c11
     obtain ⟨⟨t202, t203, t204, t205⟩, A12, H⟩ := bA H
     dsimp only at H
     by_cases c13 : x201003_1.length < 2932031007402
     ·rw [if_pos c13] at H
      have LMc13 := Aside0.mk c13
      clear c13
      obtain ⟨y208, hy208⟩ : ∃ y_ : List (S27), y_ = (x201003_1 ++ [(⟨t202, t203, t204, t205⟩ : S27)]) := ⟨_, rfl⟩
      replace H : (spec_l15Copy.l0 k1 (wrap64 (x4_1 + 1)) a0_0 a0_1 a0_2 l0_3 a0_0 a0_1 a0_2 y208) = some (r1, r2, r3, r4) := by first | (rw [hy208]; with_reducible exact H) | (have H2_ := (Option.bind_some _ _).symm.trans H; rw [hy208]; with_reducible exact H2_) | (have H2_ := (Option.bind_some _ _).symm.trans H; with_reducible exact H2_) | with_reducible exact H | (rw [hy208]; exact H) | exact H
      have Ny208 := Aside0.mk hy208
      clear hy208
      have H' := Aside0.mk H
      clear H
      have hnb14 := NB198_199.out
      have hnc14 := NB199_198.out
      have hnb15 := NB198_200.out
      have hnc15 := NB200_198.out
      obtain ⟨hcz16_0, hcz16_1, hcz16_2, hcz16_3, hfz16_0, hfz16_1, hfz16_2, hfz16_3⟩ := sd4 BK198.out
      try go_wp2
      replace HO_201003 := Aside0.mk (Kd.R_drew HO_201003.out)
      replace BK198 := Aside0.mk (blk_drew BK198.out)
      replace BK199 := Aside0.mk (blk_drew BK199.out)
      replace BK200 := Aside0.mk (blk_drew BK200.out)
      replace HB := Aside0.mk (below_drew1 HB.out)
      have p201 : 0 ≤ (x4_1 : Int) := of_decide_eq_true sqs
      have q201 : x4_1 < (l0_3.length : Int) := of_decide_eq_true sqs
      obtain ⟨ad201, A201_3, c201_3, e201, hx201_0, hx201_1, hx201_2, hx201_3, hl201_3, hi201_3⟩ := at_T27 HR0_3.out x4_1 p201 q201
      have hw201_3 := hx201_3; have hw201_2 := hx201_2; have hw201_1 := hx201_1; have hw201_0 := hx201_0
      cases e201
      replace hx201_0 := cl HB hx201_0; replace hx201_1 := cl HB hx201_1; replace hx201_2 := cl HB hx201_2; replace hx201_3 := cl HB hx201_3
      have HR201_3 := Aside0.mk hi201_3
      have HC201_3 := Aside0.mk hl201_3
      clear hi201_3 hl201_3
      replace p201 := eq_true p201
      replace q201 := eq_true q201
      refine start_ (n := 12) (S := fun w' => w'.cell? ⟨gb200, 0, none⟩ = some (.int .i64 a0_0) ∧ w'.cell? ⟨gb200, 1, none⟩ = some (.int .i64 a0_1) ∧ w'.cell? ⟨gb200, 2, none⟩ = some (.int .i64 a0_2) ∧ w'.cell? ⟨gb200, 3, none⟩ = some (u201003) ∧ w'.cell? ⟨gb198, 0, none⟩ = some (.int .i64 a0_0) ∧ w'.cell? ⟨gb198, 1, none⟩ = some (.int .i64 a0_1) ∧ w'.cell? ⟨gb198, 2, none⟩ = some (.int .i64 a0_2) ∧ w'.cell? ⟨gb198, 3, none⟩ = some (.slice (some ad201) l0_3.length c0_3) ∧ w'.cell? (ad201.add ((x4_1).toNat * 4)) = some (.int .i64 ((rd_T27 l0_3 x4_1).f0)) ∧ w'.cell? ⟨(ad201.add ((x4_1).toNat * 4)).block, (ad201.add ((x4_1).toNat * 4)).off + 1, none⟩ = some (.int .i64 ((rd_T27 l0_3 x4_1).f1)) ∧ w'.cell? ⟨(ad201.add ((x4_1).toNat * 4)).block, (ad201.add ((x4_1).toNat * 4)).off + 2, none⟩ = some (.int .i64 ((rd_T27 l0_3 x4_1).f2)) ∧ w'.cell? ⟨(ad201.add ((x4_1).toNat * 4)).block, (ad201.add ((x4_1).toNat * 4)).off + 3, none⟩ = some (.slice A201_3 ((rd_T27 l0_3 x4_1).f3).length c201_3)) (ds := [11]) #[false, false, false, false, false, false, false, false, false, false, false, false] sqk rfl rfl (sa4 BK200.out (sa4 BK198.out ⟨(cl HB hw201_0), (cl HB hw201_1), (cl HB hw201_2), (cl HB hw201_3)⟩)) (fun hHeld => ?_); refine with_tabW spec_l15Copy.tab5 spec_l15Copy.bits5 (fun HT_ HW_ => ?_)
      generalize wr.drew = w17 at HO_201003 BK198 BK199 BK200 HB HR201_3 hx201_0 hx201_1 hx201_2 hx201_3 hHeld ⊢
      refine pu 0 19 ?_; refine pu 2 21 ?_; refine pu 4 23 ?_; refine ta 1 20 ?_; refine ta 3 22 ?_; refine pu 5 24 ?_; refine ta 6 25 ?_
      refine on 7 (some 26) (fun K hK => ?_)
      refine goes_ Tryd.func52 sqk rfl #[.agg #[.int .i64 ((rd_T27 l0_3 x4_1).f0), .int .i64 ((rd_T27 l0_3 x4_1).f1), .int .i64 ((rd_T27 l0_3 x4_1).f2), .slice A201_3 ((rd_T27 l0_3 x4_1).f3).length c201_3]] (by rfl) rfl rfl sqm ?_
      with_reducible refine (ih k1 (by have := HK1.out; omega) ((rd_T27 l0_3 x4_1).f0) ((rd_T27 l0_3 x4_1).f1) ((rd_T27 l0_3 x4_1).f2) _ _ ((rd_T27 l0_3 x4_1).f3) t202 t203 t204 t205 _ ?side1 ?side2 A12.out).mono ?_
      (case side1 => repeat (first | exact (Kd.C_below HR201_3.out HB.out) | (with_reducible refine Kd.C_alloc ?_ _) | (with_reducible refine Kd.C_drewN ?_ _) | (with_reducible refine Kd.C_drew ?_)))
      (case side2 => exact HC201_3.out)
      rintro e w18 ⟨v206, rfl, ho0, hb⟩
      refine ⟨_, rfl, ?_⟩
      have HO207 := Aside0.mk (Kd.R_lower (Kd.R_newB (Kd.R_newB (Kd.R_newB (Kd.R_new' ho0 (Kd.R_lt (sqq HO_201003.out))) (bo BK198)) (bo BK199)) (bo BK200)) (below_size sqh))
      replace HO_201003 := Aside0.mk (Kd.R_elder' (sqq HO_201003.out) (Kd.R_base ho0) hb)
      replace BK198 := Aside0.mk (blk_below (bo BK198) hb)
      replace BK199 := Aside0.mk (blk_below (bo BK199) hb)
      replace BK200 := Aside0.mk (blk_below (bo BK200) hb)
      replace HB := Aside0.mk (below_step sqh hb)
      (try clear hb)
      (try clear hb2)
      (try clear hk)
      (try clear hi)
      (try clear ho0)
      obtain ⟨Ao20, co20, eo20⟩ := Kd.R_slice HO207.out
      (first | subst eo20 | (injection eo20 with f1_ f2_ f3_; have f4_ := f1_.symm; have f5_ := f3_.symm; clear f1_ f2_ f3_; subst f4_; subst f5_))
      refine hK.out _ _ (sa4 BK200.out (sa4 BK198.out ⟨(cl HB hw201_0), (cl HB hw201_1), (cl HB hw201_2), (cl HB hw201_3)⟩)) (fun hHeld => ?_)
      clear hK K; refine no 26 ?_
      refine on 8 (some 27) (fun K hK => ?_)
      refine value_ (w1 := ?_) (v := ?_) (by rfl) rfl ?_ ?_
      rotate_left 2
      ·go_simp
       constructor
       ·rfl
       ·rfl
      refine hK.out _ _ ⟨(blk_cell (blk_alloc BK200.out _) 0).trans rfl, (blk_cell (blk_alloc BK200.out _) 1).trans rfl, (blk_cell (blk_alloc BK200.out _) 2).trans rfl, (blk_cell (blk_alloc BK200.out _) 3).trans rfl, (blk_cell (blk_alloc BK198.out _) 0).trans rfl, (blk_cell (blk_alloc BK198.out _) 1).trans rfl, (blk_cell (blk_alloc BK198.out _) 2).trans rfl, (blk_cell (blk_alloc BK198.out _) 3).trans rfl, (World.cell?_alloc_lt _ _ _ (World.block_lt_of_cell? _ _ ((cl HB hw201_0)))).trans ((cl HB hw201_0)), (World.cell?_alloc_lt _ _ _ (World.block_lt_of_cell? _ _ ((cl HB hw201_1)))).trans ((cl HB hw201_1)), (World.cell?_alloc_lt _ _ _ (World.block_lt_of_cell? _ _ ((cl HB hw201_2)))).trans ((cl HB hw201_2)), (World.cell?_alloc_lt _ _ _ (World.block_lt_of_cell? _ _ ((cl HB hw201_3)))).trans ((cl HB hw201_3))⟩ (fun hHeld => ?_)
      clear hK K; refine no 27 ?_
      refine on 9 (some 28) (fun K hK => ?_)
      refine Kd.R_append_step k27 (w0 := w) w.heap.size (by rfl) (.tmp 20) (.tmp 27) 25 27 (.agg #[(.int .i64 0), (.int .i64 0), (.int .i64 0), (.slice none 0 0)]) 48 rfl Tryd.underlying25 info27 rfl (by decide) (by omega) u201003 x201003_1 (⟨t202, t203, t204, t205⟩ : S27) [.int .i64 t202, .int .i64 t203, .int .i64 t204, .slice Ao20 t205.length co20] (fun k_ => k_ ≠ gb198 ∧ k_ ≠ gb199 ∧ k_ ≠ gb200) (fun k_ => ((fun k_ => k_ ≠ gb198 ∧ k_ ≠ gb199 ∧ k_ ≠ gb200)) k_ ∧ some k_ ≠ (u201003 : Value).ownBlock) rfl rfl ?aP (fun _ hk => hk) ?aF ?aO ?aB ?aS ?aL ?_
      (case aP => exact k27_mkM _ _ _ (⟨t202, t203, t204, t205⟩ : S27) (Kd.R_mono (HO207.out) (fun k_ hk => ⟨⟨hk.1.1.2, ⟨hk.1.2, hk.2⟩⟩, hk.1.1.1.2⟩)))
      (case aB => exact sqh)
      (case aF => exact (fun k_ hk => ⟨Kd.freshB (bo BK198) k_ hk, Kd.freshB (bo BK199) k_ hk, Kd.freshB (bo BK200) k_ hk⟩))
      (case aO => exact (by (with_reducible repeat (first | apply Kd.R_alloc | apply Kd.R_drewN | apply Kd.R_drew)); exact Kd.R_mono HO_201003.out (fun _ hk => ⟨hk.1.1, ⟨hk.1.2.1, hk.1.2.2⟩⟩)))
      (case aS => exact (below_size sqh))
      (case aL => have := LMc13.out; omega)
      intro v209 w19 ho hb hg hat
      rw [← Ny208.out] at ho
      replace BK198 := Aside0.mk (blk_grown (bo BK198) hg (Kd.R_away HO_201003.out (fun _ hk => hk.1.1)))
      replace BK199 := Aside0.mk (blk_grown (bo BK199) hg (Kd.R_away HO_201003.out (fun _ hk => hk.1.2.1)))
      replace BK200 := Aside0.mk (blk_grown (bo BK200) hg (Kd.R_away HO_201003.out (fun _ hk => hk.1.2.2)))
      replace HB := Aside0.mk (hb)
      have HO210 := Aside0.mk (ho)
      clear HO_201003 HO207; clear ho hb hg hat
      obtain ⟨Ao21, co21, eo21⟩ := Kd.R_slice HO210.out
      (first | subst eo21 | (injection eo21 with f1_ f2_ f3_; have f4_ := f1_.symm; have f5_ := f3_.symm; clear f1_ f2_ f3_; subst f4_; subst f5_))
      refine hK.out _ _ (sa4 BK200.out (sa4 BK198.out ⟨(cl HB hw201_0), (cl HB hw201_1), (cl HB hw201_2), (cl HB hw201_3)⟩)) (fun hHeld => ?_)
      clear hK K; refine no 28 ?_; refine pu 10 29 ?_
      refine last_ (i := 11) (N := none) #[true, true, true, true, true, true, true, true, true, true, true, true] rfl rfl (one_of HT_.out sqk) (by decide) (fun K hK => ?_)
      have hs22 : w19.cell? ⟨gb200, 3, none⟩ = some (u201003) := (blk_cell BK200.out 3).trans rfl
      have hfs22 := blk_frozen BK200.out 3
      have hns22_0 := NB198_200.out
      have hns22_1 := NB199_200.out
      have hms22_0 := NB200_198.out
      have hms22_1 := NB200_199.out
      refine skip_ (w1 := ?_) (by rfl) rfl ?_ ?_
      rotate_left
      ·go_simp
       rfl
      refine hK.out _ _ ?_
      clear hK K
      refine dn ?_
      try go_wp2
      go_roundg k1
      case measure => have := HK1.out; omega
      case rel => exact ⟨(wrap64 (x4_1 + 1)), (y208), (.slice Ao21 y208.length co21), sqr, H', ⟨by have := HK1.out; omega⟩, ⟨by (with_reducible repeat (first | apply Kd.R_alloc | apply Kd.R_drewN | apply Kd.R_drew)); exact Kd.R_mono (Kd.R_far (p := ⟨gb200, 3, none⟩) (Kd.R_mono HO210.out (fun k_ hk => (⟨hk, hk.2.2⟩ : _ ∧ k_ ≠ gb200))) (fun _ hk => hk.2) (.slice Ao21 y208.length co21)) (fun _ hk => ⟨hk.1.1, ⟨hk.1.2.1, hk.1.2.2⟩⟩)⟩, ⟨bp BK198⟩, ⟨bp BK199⟩, ⟨bp BK200⟩, ⟨sqh⟩⟩
     ·rw [if_neg c13] at H
      exact absurd H (by simp)
    ·rw [if_neg c11] at H
     exact absurd H (by simp)
   ·rw [if_neg c10] at H
    have c10b0 : decide (x4_1 < (l0_3.length : Int)) = false := decide_eq_false c10
    clear c10
    simp only [Option.some.injEq, Prod.mk.injEq] at H
    obtain ⟨rfl, rfl, rfl, rfl⟩ := H
    have hnb23 := NB198_199.out
    have hnc23 := NB199_198.out
    have hnb24 := NB198_200.out
    have hnc24 := NB200_198.out
    obtain ⟨hcz25_0, hcz25_1, hcz25_2, hcz25_3, hfz25_0, hfz25_1, hfz25_2, hfz25_3⟩ := sd4 BK198.out
    have hnb26 := NB200_199.out
    have hnc26 := NB199_200.out
    obtain ⟨hcz27_0, hcz27_1, hcz27_2, hcz27_3, hfz27_0, hfz27_1, hfz27_2, hfz27_3⟩ := sd4 BK200.out
    obtain ⟨hcz28_0, hcz28_1, hcz28_2, hcz28_3, hfz28_0, hfz28_1, hfz28_2, hfz28_3⟩ := sd4 BK199.out
    obtain ⟨Ao29, co29, eo29⟩ := Kd.R_slice HO_201003.out
    subst eo29
    go_wp2
    refine bodyPost_ret (results_cell_row rfl _ _ gb199 27 #[.int .i64 a0_0, .int .i64 a0_1, .int .i64 a0_2, .slice Ao29 x201003_1.length co29] (0, 0) _ rfl ?_ Tryd.underlying27 rfl sqk) rfl ?_; exact bp BK199
    exact ⟨_, sqe, by (with_reducible repeat (first | apply Kd.R_alloc | apply Kd.R_drewN | apply Kd.R_drew)); exact Kd.R_mono (Kd.R_far (p := ⟨gb199, 3, none⟩) (Kd.R_far (p := ⟨gb199, 2, none⟩) (Kd.R_far (p := ⟨gb199, 1, none⟩) (Kd.R_far (p := ⟨gb199, 0, none⟩) (Kd.R_mono HO_201003.out (fun k_ hk => (⟨hk, hk.2.1⟩ : _ ∧ k_ ≠ gb199))) (fun _ hk => hk.2) (.int .i64 a0_0)) (fun _ hk => hk.2) (.int .i64 a0_1)) (fun _ hk => hk.2) (.int .i64 a0_2)) (fun _ hk => hk.2) (.slice Ao29 x201003_1.length co29)) (fun _ hk => trivial), sqh⟩

/-! ### spec_CondNot: function 38 -/
def spec_CondNot.f (k : Nat) (a0_0 : Int) (a0_1 : Int) (a0_2 : Int) (l0_3 : List (S27)) : Option (Int × Int × Int × (List (S27))) := (spec_l15Copy.f k a0_0 a0_1 a0_2 l0_3).bind fun bt213 => (some (7, 0, 0, (([(⟨bt213.1, bt213.2.1, bt213.2.2.1, bt213.2.2.2⟩ : S27)] : List (S27)))))
set_option maxHeartbeats 8000000 in
set_option maxRecDepth 100000 in
theorem spec_CondNot.calls (k : Nat) (a0_0 : Int) (a0_1 : Int) (a0_2 : Int) (A0_3 : Option Addr) (c0_3 : Nat) (l0_3 : List (S27)) (r1 : Int) (r2 : Int) (r3 : Int) (r4 : List (S27)) (w : World) (hr0_3 : Kd.C k27 w A0_3 l0_3.length l0_3) (hc0_3 : l0_3.length ≤ c0_3) (h : spec_CondNot.f k a0_0 a0_1 a0_2 l0_3 = some (r1, r2, r3, r4)) :
  Calls Tryd.prog 38 #[.agg #[.int .i64 a0_0, .int .i64 a0_1, .int .i64 a0_2, .slice A0_3 l0_3.length c0_3]] w fun e w' => ∃ v3_ : Value, e = .returned (.agg #[.int .i64 r1, .int .i64 r2, .int .i64 r3, v3_]) ∧ Kd.N k27 27 w' w.heap.size (fun k_ => (w.heap.size ≤ k_)) v3_ r4 ∧ Below w.heap.size w w' := by
 have hu27 := Tryd.underlying27
 have HR0_3 := Aside0.mk hr0_3
 have HC0_3 := Aside0.mk hc0_3
 clear hr0_3 hc0_3
 have HB := Aside0.mk (Below.refl w.heap.size w)
 have H : ((spec_l15Copy.f k a0_0 a0_1 a0_2 l0_3).bind fun bt213 => (some (7, 0, 0, (([(⟨bt213.1, bt213.2.1, bt213.2.2.1, bt213.2.2.2⟩ : S27)] : List (S27)))))) = some (r1, r2, r3, r4) := h
 clear h
 obtain ⟨⟨t213, t214, t215, t216⟩, A2, H⟩ := bA H
 dsimp only at H
 obtain ⟨y219, hy219⟩ : ∃ y_ : List (S27), y_ = (([(⟨t213, t214, t215, t216⟩ : S27)] : List (S27))) := ⟨_, rfl⟩
 replace H : (some (7, 0, 0, y219)) = some (r1, r2, r3, r4) := by first | (rw [hy219]; with_reducible exact H) | (have H2_ := (Option.bind_some _ _).symm.trans H; rw [hy219]; with_reducible exact H2_) | (have H2_ := (Option.bind_some _ _).symm.trans H; with_reducible exact H2_) | with_reducible exact H | (rw [hy219]; exact H) | exact H
 have Ny219 := Aside0.mk hy219
 clear hy219
 simp only [Option.some.injEq, Prod.mk.injEq] at H
 obtain ⟨rfl, rfl, rfl, rfl⟩ := H
 go_enter Tryd.func38, Tryd.ntmps38
 go_wp2_with (first | ((with_reducible refine gate_dst (N := 1) rfl ?_); refine bx (N := 1) (cs := #[.int .i64 a0_0, .int .i64 a0_1, .int .i64 a0_2, .slice A0_3 l0_3.length c0_3]) (t := 27) ?_; intro gb211 hg w3 hbox hb; have BK211 := Aside0.mk (hbox); have GW211 := Aside0.mk ((by rw [hg]; exact (below_size sqh) : w.heap.size ≤ gb211)); have GE211 := Aside0.mk ((by rw [hg]; exact (below_size sqh) : w.heap.size ≤ gb211)); replace HB := Aside0.mk (below_step sqh hb); clear hb hbox hg) | ((with_reducible refine gate_dst (N := 2) rfl ?_); refine bx (N := 2) (cs := #[.int .i64 0, .int .i64 0, .int .i64 0, .slice none 0 0]) (t := 27) ?_; intro gb212 hg w4 hbox hb; have BK212 := Aside0.mk (hbox); have GW212 := Aside0.mk ((by rw [hg]; exact (below_size sqh) : w.heap.size ≤ gb212)); have GE212 := Aside0.mk ((by rw [hg]; exact (below_size sqh) : w.heap.size ≤ gb212)); replace HB := Aside0.mk (below_step sqh hb); have NB211_212 := Aside0.mk ((by rw [hg]; exact Nat.ne_of_lt (blk_lt (bo BK211)) : gb211 ≠ gb212)); have NB212_211 := Aside0.mk ((by rw [hg]; exact Nat.ne_of_gt (blk_lt (bo BK211)) : gb212 ≠ gb211)); replace BK211 := Aside0.mk (blk_below (bo BK211) hb); clear hb hbox hg; have hnb5 := NB211_212.out; have hnc5 := NB212_211.out; obtain ⟨hcz6_0, hcz6_1, hcz6_2, hcz6_3, hfz6_0, hfz6_1, hfz6_2, hfz6_3⟩ := sd4 BK211.out) | ((with_reducible refine gate_callee (f := 52) rfl ?_); refine goesL_ (some 4) rfl rfl Tryd.func52 sqk rfl #[.agg #[.int .i64 a0_0, .int .i64 a0_1, .int .i64 a0_2, .slice A0_3 l0_3.length c0_3]] rfl sqm ?_; (with_reducible refine (spec_l15Copy.calls k a0_0 a0_1 a0_2 _ _ l0_3 t213 t214 t215 t216 _ ?side1 ?side2 A2.out).mono ?_); (case side1 => exact sqn (Kd.C_below HR0_3.out HB.out)); (case side2 => exact HC0_3.out); rintro e w7 ⟨v217, rfl, ho0, hb⟩; refine ⟨_, rfl, ?_⟩; have HO218 := Aside0.mk (Kd.N_lower (Kd.N_mono (ok' := fun k_ => (w.heap.size ≤ k_) ∧ k_ ≠ gb211 ∧ k_ ≠ gb212) (Kd.R_N (Kd.R_bound ho0)) (fun k_ hk_ => ⟨(Nat.le_trans (below_size sqh) hk_.2.1), (Kd.freshB (bo BK211) k_ hk_.2.1), (Kd.freshB (bo BK212) k_ hk_.2.1)⟩)) (below_size sqh)); replace BK211 := Aside0.mk (blk_below (bo BK211) hb); replace BK212 := Aside0.mk (blk_below (bo BK212) hb); replace HB := Aside0.mk (below_step sqh hb); (try clear hb); (try clear ho0); obtain ⟨Ao8, co8, eo8⟩ := Kd.N_slice HO218.out; subst eo8) | ((with_reducible refine gate_dst (N := 5) rfl ?_); refine Kd.N_lit k27 _ 27 ?hg (N' := 5) ?hd (xs := ([(⟨t213, t214, t215, t216⟩ : S27)] : List (S27))) (inner := [.int .i64 t213, .int .i64 t214, .int .i64 t215, .slice Ao8 t216.length co8]) (ok := (fun k_ => (w.heap.size ≤ k_) ∧ k_ ≠ gb211 ∧ k_ ≠ gb212)) (okp := (fun k_ => (w.heap.size ≤ k_) ∧ k_ ≠ gb211 ∧ k_ ≠ gb212)) ?hr ?hp (fun _ hk => hk) ((show ∀ k_, w7.heap.size ≤ k_ → (fun k_ => (w.heap.size ≤ k_) ∧ k_ ≠ gb211 ∧ k_ ≠ gb212) k_ from fun k_ hk => ⟨(Nat.le_trans (below_size sqh) hk), Kd.freshB (bo BK211) k_ hk, Kd.freshB (bo BK212) k_ hk⟩) _ (Nat.le_refl _)) (Below.refl _ _) (Nat.le_refl _) (by simp) ?_; (case hd => rfl); (case hg => rfl); (case hr => first | (go_simp; done) | (go_simp; rfl)); (case hp => exact (Reps.c4 (show Kd.FK k27 _ _ (⟨t213, t214, t215, t216⟩ : S27) [.int .i64 t213, .int .i64 t214, .int .i64 t215, .slice Ao8 t216.length co8] from (k27_mkF _ _ (⟨t213, t214, t215, t216⟩ : S27) (Kd.N_reads' (Kd.N_mono (ok' := (fun k_ => (w.heap.size ≤ k_) ∧ k_ ≠ gb211 ∧ k_ ≠ gb212)) (HO218.out) (fun k_ hk => ⟨hk.1, ⟨hk.2.1, hk.2.2⟩⟩))).2.1 (Kd.N_F (Kd.N_mono (ok' := (fun k_ => (w.heap.size ≤ k_) ∧ k_ ≠ gb211 ∧ k_ ≠ gb212)) (HO218.out) (fun k_ hk => ⟨hk.1, ⟨hk.2.1, hk.2.2⟩⟩))))) (Reps.none _ _))); intro v220 w9 ho10 hb hg_ hnew_; clear hg_ hnew_; (first | rw [← Ny219.out] at ho10 | (simp only [Int.reduceToNat] at ho10; rw [← Ny219.out] at ho10)); have HO221 := Aside0.mk (Kd.N_lower ho10 (below_size sqh)); replace BK211 := Aside0.mk (blk_below (bo BK211) hb); replace BK212 := Aside0.mk (blk_below (bo BK212) hb); replace HB := Aside0.mk (below_step sqh hb); clear HO218; clear hb ho10; obtain ⟨Ao11, co11, eo11⟩ := Kd.N_slice HO221.out; subst eo11; obtain ⟨hcz12_0, hcz12_1, hcz12_2, hcz12_3, hfz12_0, hfz12_1, hfz12_2, hfz12_3⟩ := sd4 BK212.out))
 refine bodyPost_ret (results_cell_row rfl _ _ gb212 27 #[.int .i64 7, .int .i64 0, .int .i64 0, .slice Ao11 y219.length co11] (0, 0) _ rfl ?_ Tryd.underlying27 rfl sqk) rfl ?_; exact bp BK212
 exact ⟨_, sqe, by (with_reducible repeat (first | apply Kd.N_alloc | apply Kd.N_drewN | apply Kd.N_drew)); exact Kd.N_mono (Kd.N_far (p := ⟨gb212, 3, none⟩) (Kd.N_far (p := ⟨gb212, 2, none⟩) (Kd.N_far (p := ⟨gb212, 1, none⟩) (Kd.N_far (p := ⟨gb212, 0, none⟩) (Kd.N_mono HO221.out (fun k_ hk => (⟨hk, hk.2.2⟩ : _ ∧ k_ ≠ gb212))) (fun _ hk => hk.2) (.int .i64 7)) (fun _ hk => hk.2) (.int .i64 0)) (fun _ hk => hk.2) (.int .i64 0)) (fun _ hk => hk.2) (.slice Ao11 y219.length co11)) (fun _ hk => hk.1.1), sqh⟩

/-! ### spec_CondAnd: function 47 -/
def spec_CondAnd.f (k : Nat) (a0_0 : Int) (a0_1 : Int) (a0_2 : Int) (l0_3 : List (S27)) (a1_0 : Int) (a1_1 : Int) (a1_2 : Int) (l1_3 : List (S27)) : Option (Int × Int × Int × (List (S27))) := (spec_l15Copy.f k a0_0 a0_1 a0_2 l0_3).bind fun bt225 => ((spec_l15Copy.f k a1_0 a1_1 a1_2 l1_3).bind fun bt231 => (some (8, 0, 0, (([(⟨bt225.1, bt225.2.1, bt225.2.2.1, bt225.2.2.2⟩ : S27), (⟨bt231.1, bt231.2.1, bt231.2.2.1, bt231.2.2.2⟩ : S27)] : List (S27))))))
set_option maxHeartbeats 8000000 in
set_option maxRecDepth 100000 in
theorem spec_CondAnd.calls (k : Nat) (a0_0 : Int) (a0_1 : Int) (a0_2 : Int) (A0_3 : Option Addr) (c0_3 : Nat) (l0_3 : List (S27)) (a1_0 : Int) (a1_1 : Int) (a1_2 : Int) (A1_3 : Option Addr) (c1_3 : Nat) (l1_3 : List (S27)) (r1 : Int) (r2 : Int) (r3 : Int) (r4 : List (S27)) (w : World) (hr0_3 : Kd.C k27 w A0_3 l0_3.length l0_3) (hc0_3 : l0_3.length ≤ c0_3) (hr1_3 : Kd.C k27 w A1_3 l1_3.length l1_3) (hc1_3 : l1_3.length ≤ c1_3) (h : spec_CondAnd.f k a0_0 a0_1 a0_2 l0_3 a1_0 a1_1 a1_2 l1_3 = some (r1, r2, r3, r4)) :
  Calls Tryd.prog 47 #[.agg #[.int .i64 a0_0, .int .i64 a0_1, .int .i64 a0_2, .slice A0_3 l0_3.length c0_3], .agg #[.int .i64 a1_0, .int .i64 a1_1, .int .i64 a1_2, .slice A1_3 l1_3.length c1_3]] w fun e w' => ∃ v3_ : Value, e = .returned (.agg #[.int .i64 r1, .int .i64 r2, .int .i64 r3, v3_]) ∧ Kd.N k27 27 w' w.heap.size (fun k_ => (w.heap.size ≤ k_)) v3_ r4 ∧ Below w.heap.size w w' := by
 have hu27 := Tryd.underlying27
 have HR0_3 := Aside0.mk hr0_3
 have HC0_3 := Aside0.mk hc0_3
 clear hr0_3 hc0_3
 have HR1_3 := Aside0.mk hr1_3
 have HC1_3 := Aside0.mk hc1_3
 clear hr1_3 hc1_3
 have HB := Aside0.mk (Below.refl w.heap.size w)
 have H : ((spec_l15Copy.f k a0_0 a0_1 a0_2 l0_3).bind fun bt225 => ((spec_l15Copy.f k a1_0 a1_1 a1_2 l1_3).bind fun bt231 => (some (8, 0, 0, (([(⟨bt225.1, bt225.2.1, bt225.2.2.1, bt225.2.2.2⟩ : S27), (⟨bt231.1, bt231.2.1, bt231.2.2.1, bt231.2.2.2⟩ : S27)] : List (S27))))))) = some (r1, r2, r3, r4) := h
 clear h
 obtain ⟨⟨t225, t226, t227, t228⟩, A3, H⟩ := bA H
 dsimp only at H
 obtain ⟨⟨t231, t232, t233, t234⟩, A4, H⟩ := bA H
 dsimp only at H
 obtain ⟨y237, hy237⟩ : ∃ y_ : List (S27), y_ = (([(⟨t225, t226, t227, t228⟩ : S27), (⟨t231, t232, t233, t234⟩ : S27)] : List (S27))) := ⟨_, rfl⟩
 replace H : (some (8, 0, 0, y237)) = some (r1, r2, r3, r4) := by first | (rw [hy237]; with_reducible exact H) | (have H2_ := (Option.bind_some _ _).symm.trans H; rw [hy237]; with_reducible exact H2_) | (have H2_ := (Option.bind_some _ _).symm.trans H; with_reducible exact H2_) | with_reducible exact H | (rw [hy237]; exact H) | exact H
 have Ny237 := Aside0.mk hy237
 clear hy237
 simp only [Option.some.injEq, Prod.mk.injEq] at H
 obtain ⟨rfl, rfl, rfl, rfl⟩ := H
 go_enter Tryd.func47, Tryd.ntmps47
 try go_wp2_with (first | ((with_reducible refine gate_dst (N := 2) rfl ?_); refine bx (N := 2) (cs := #[.int .i64 a0_0, .int .i64 a0_1, .int .i64 a0_2, .slice A0_3 l0_3.length c0_3]) (t := 27) ?_; intro gb222 hg w5 hbox hb; have BK222 := Aside0.mk (hbox); have GW222 := Aside0.mk ((by rw [hg]; exact (below_size sqh) : w.heap.size ≤ gb222)); have GE222 := Aside0.mk ((by rw [hg]; exact (below_size sqh) : w.heap.size ≤ gb222)); replace HB := Aside0.mk (below_step sqh hb); clear hb hbox hg) | ((with_reducible refine gate_dst (N := 3) rfl ?_); refine bx (N := 3) (cs := #[.int .i64 a1_0, .int .i64 a1_1, .int .i64 a1_2, .slice A1_3 l1_3.length c1_3]) (t := 27) ?_; intro gb223 hg w6 hbox hb; have BK223 := Aside0.mk (hbox); have GW223 := Aside0.mk ((by rw [hg]; exact (below_size sqh) : w.heap.size ≤ gb223)); have GE223 := Aside0.mk ((by rw [hg]; exact (below_size sqh) : w.heap.size ≤ gb223)); replace HB := Aside0.mk (below_step sqh hb); have NB222_223 := Aside0.mk ((by rw [hg]; exact Nat.ne_of_lt (blk_lt (bo BK222)) : gb222 ≠ gb223)); have NB223_222 := Aside0.mk ((by rw [hg]; exact Nat.ne_of_gt (blk_lt (bo BK222)) : gb223 ≠ gb222)); replace BK222 := Aside0.mk (blk_below (bo BK222) hb); clear hb hbox hg) | ((with_reducible refine gate_dst (N := 4) rfl ?_); refine bx (N := 4) (cs := #[.int .i64 0, .int .i64 0, .int .i64 0, .slice none 0 0]) (t := 27) ?_; intro gb224 hg w7 hbox hb; have BK224 := Aside0.mk (hbox); have GW224 := Aside0.mk ((by rw [hg]; exact (below_size sqh) : w.heap.size ≤ gb224)); have GE224 := Aside0.mk ((by rw [hg]; exact (below_size sqh) : w.heap.size ≤ gb224)); replace HB := Aside0.mk (below_step sqh hb); have NB222_224 := Aside0.mk ((by rw [hg]; exact Nat.ne_of_lt (blk_lt (bo BK222)) : gb222 ≠ gb224)); have NB224_222 := Aside0.mk ((by rw [hg]; exact Nat.ne_of_gt (blk_lt (bo BK222)) : gb224 ≠ gb222)); replace BK222 := Aside0.mk (blk_below (bo BK222) hb); have NB223_224 := Aside0.mk ((by rw [hg]; exact Nat.ne_of_lt (blk_lt (bo BK223)) : gb223 ≠ gb224)); have NB224_223 := Aside0.mk ((by rw [hg]; exact Nat.ne_of_gt (blk_lt (bo BK223)) : gb224 ≠ gb223)); replace BK223 := Aside0.mk (blk_below (bo BK223) hb); clear hb hbox hg))
 replace BK222 := Aside0.mk (blk_drew BK222.out)
 replace BK223 := Aside0.mk (blk_drew BK223.out)
 replace BK224 := Aside0.mk (blk_drew BK224.out)
 replace HB := Aside0.mk (below_drew1 HB.out)
 refine start_ (n := 7) (S := fun w' => w'.cell? ⟨gb222, 0, none⟩ = some (.int .i64 a0_0) ∧ w'.cell? ⟨gb222, 1, none⟩ = some (.int .i64 a0_1) ∧ w'.cell? ⟨gb222, 2, none⟩ = some (.int .i64 a0_2) ∧ w'.cell? ⟨gb222, 3, none⟩ = some (.slice A0_3 l0_3.length c0_3) ∧ w'.cell? ⟨gb223, 0, none⟩ = some (.int .i64 a1_0) ∧ w'.cell? ⟨gb223, 1, none⟩ = some (.int .i64 a1_1) ∧ w'.cell? ⟨gb223, 2, none⟩ = some (.int .i64 a1_2) ∧ w'.cell? ⟨gb223, 3, none⟩ = some (.slice A1_3 l1_3.length c1_3)) (ds := []) #[false, false, false, false, false, false, false] sqk rfl rfl (sa4 BK222.out (sc4 BK223.out)) (fun hHeld => ?_)
 generalize w7.drew = w8 at BK222 BK223 BK224 HB hHeld ⊢
 refine ta 0 5 ?_; refine ta 2 7 ?_
 refine on 1 (some 6) (fun K hK => ?_)
 refine goes_ Tryd.func52 sqk rfl #[.agg #[.int .i64 a0_0, .int .i64 a0_1, .int .i64 a0_2, .slice A0_3 l0_3.length c0_3]] (by rfl) rfl rfl sqm ?_
 with_reducible refine (spec_l15Copy.calls k a0_0 a0_1 a0_2 _ _ l0_3 t225 t226 t227 t228 _ ?side1 ?side2 A3.out).mono ?_
 (case side1 => repeat (first | exact (Kd.C_below HR0_3.out HB.out) | (with_reducible refine Kd.C_alloc ?_ _) | (with_reducible refine Kd.C_drewN ?_ _) | (with_reducible refine Kd.C_drew ?_)))
 (case side2 => exact HC0_3.out)
 rintro e w9 ⟨v229, rfl, ho0, hb⟩
 refine ⟨_, rfl, ?_⟩
 have HO230 := Aside0.mk (Kd.N_lower (Kd.N_mono (ok' := fun k_ => (w.heap.size ≤ k_) ∧ k_ ≠ gb222 ∧ k_ ≠ gb223 ∧ k_ ≠ gb224) (Kd.R_N (Kd.R_bound ho0)) (fun k_ hk_ => ⟨(Nat.le_trans (below_size sqh) hk_.2.1), (Kd.freshB (bo BK222) k_ hk_.2.1), (Kd.freshB (bo BK223) k_ hk_.2.1), (Kd.freshB (bo BK224) k_ hk_.2.1)⟩)) (below_size sqh))
 replace BK222 := Aside0.mk (blk_below (bo BK222) hb)
 replace BK223 := Aside0.mk (blk_below (bo BK223) hb)
 replace BK224 := Aside0.mk (blk_below (bo BK224) hb)
 replace HB := Aside0.mk (below_step sqh hb)
 (try clear hb)
 (try clear hb2)
 (try clear hk)
 (try clear hi)
 (try clear ho0)
 refine hK.out _ _ (sa4 BK222.out (sc4 BK223.out)) (fun hHeld => ?_)
 clear hK K; refine no 6 ?_
 refine on 3 (some 8) (fun K hK => ?_)
 refine goes_ Tryd.func52 sqk rfl #[.agg #[.int .i64 a1_0, .int .i64 a1_1, .int .i64 a1_2, .slice A1_3 l1_3.length c1_3]] (by rfl) rfl rfl sqm ?_
 with_reducible refine (spec_l15Copy.calls k a1_0 a1_1 a1_2 _ _ l1_3 t231 t232 t233 t234 _ ?side1 ?side2 A4.out).mono ?_
 (case side1 => repeat (first | exact (Kd.C_below HR1_3.out HB.out) | (with_reducible refine Kd.C_alloc ?_ _) | (with_reducible refine Kd.C_drewN ?_ _) | (with_reducible refine Kd.C_drew ?_)))
 (case side2 => exact HC1_3.out)
 rintro e w10 ⟨v235, rfl, ho0, hb⟩
 refine ⟨_, rfl, ?_⟩
 have HO236 := Aside0.mk (Kd.N_lower (Kd.N_mono (ok' := fun k_ => (w.heap.size ≤ k_) ∧ some k_ ≠ (v229 : Value).ownBlock ∧ k_ ≠ gb222 ∧ k_ ≠ gb223 ∧ k_ ≠ gb224) (Kd.R_N (Kd.R_bound ho0)) (fun k_ hk_ => ⟨(Nat.le_trans (below_size sqh) hk_.2.1), (Kd.fresh' (Kd.N_lt (by (with_reducible repeat (first | apply Kd.N_alloc | apply Kd.N_drewN | apply Kd.N_drew)); exact HO230.out)) k_ hk_.2.1), (Kd.freshB (bo BK222) k_ hk_.2.1), (Kd.freshB (bo BK223) k_ hk_.2.1), (Kd.freshB (bo BK224) k_ hk_.2.1)⟩)) (below_size sqh))
 replace HO230 := Aside0.mk (Kd.N_elder' (by (with_reducible repeat (first | apply Kd.N_alloc | apply Kd.N_drewN | apply Kd.N_drew)); exact HO230.out) (Kd.N_base (Kd.R_N ho0)) hb)
 replace BK222 := Aside0.mk (blk_below (bo BK222) hb)
 replace BK223 := Aside0.mk (blk_below (bo BK223) hb)
 replace BK224 := Aside0.mk (blk_below (bo BK224) hb)
 replace HB := Aside0.mk (below_step sqh hb)
 (try clear hb)
 (try clear hb2)
 (try clear hk)
 (try clear hi)
 (try clear ho0)
 obtain ⟨Ao11, co11, eo11⟩ := Kd.N_slice HO230.out
 (first | subst eo11 | (injection eo11 with f1_ f2_ f3_; have f4_ := f1_.symm; have f5_ := f3_.symm; clear f1_ f2_ f3_; subst f4_; subst f5_))
 obtain ⟨Ao12, co12, eo12⟩ := Kd.N_slice HO236.out
 (first | subst eo12 | (injection eo12 with f1_ f2_ f3_; have f4_ := f1_.symm; have f5_ := f3_.symm; clear f1_ f2_ f3_; subst f4_; subst f5_))
 refine hK.out _ _ (sa4 BK222.out (sc4 BK223.out)) (fun hHeld => ?_)
 clear hK K; refine no 8 ?_
 refine on 4 (some 9) (fun K hK => ?_)
 refine Kd.N_lit_step k27 _ 27 ?hg (N' := 9) ?hd (xs := ([(⟨t225, t226, t227, t228⟩ : S27), (⟨t231, t232, t233, t234⟩ : S27)] : List (S27))) (inner := [.int .i64 t225, .int .i64 t226, .int .i64 t227, .slice Ao11 t228.length co11, .int .i64 t231, .int .i64 t232, .int .i64 t233, .slice Ao12 t234.length co12]) (ok := (fun k_ => (w.heap.size ≤ k_) ∧ k_ ≠ gb222 ∧ k_ ≠ gb223 ∧ k_ ≠ gb224)) (okp := (fun k_ => (w.heap.size ≤ k_) ∧ k_ ≠ gb222 ∧ k_ ≠ gb223 ∧ k_ ≠ gb224)) ?hr ?hp (fun _ hk => hk) ((show ∀ k_, w10.heap.size ≤ k_ → (fun k_ => (w.heap.size ≤ k_) ∧ k_ ≠ gb222 ∧ k_ ≠ gb223 ∧ k_ ≠ gb224) k_ from fun k_ hk => ⟨(Nat.le_trans (below_size sqh) hk), Kd.freshB (bo BK222) k_ hk, Kd.freshB (bo BK223) k_ hk, Kd.freshB (bo BK224) k_ hk⟩) _ (Nat.le_refl _)) (Below.refl _ _) (Nat.le_refl _) (by simp) ?_; (case hd => rfl); (case hg => rfl); (case hr => first | (go_simp; done) | (go_simp; rfl)); (case hp => exact (Reps.c4 (show Kd.FK k27 _ _ (⟨t225, t226, t227, t228⟩ : S27) [.int .i64 t225, .int .i64 t226, .int .i64 t227, .slice Ao11 t228.length co11] from (k27_mkF _ _ (⟨t225, t226, t227, t228⟩ : S27) (Kd.N_reads' (Kd.N_mono (ok' := (fun k_ => (w.heap.size ≤ k_) ∧ k_ ≠ gb222 ∧ k_ ≠ gb223 ∧ k_ ≠ gb224)) (HO230.out) (fun k_ hk => ⟨hk.1.1, ⟨hk.1.2.1, ⟨hk.1.2.2.1, hk.1.2.2.2⟩⟩⟩))).2.1 (Kd.N_F (Kd.N_mono (ok' := (fun k_ => (w.heap.size ≤ k_) ∧ k_ ≠ gb222 ∧ k_ ≠ gb223 ∧ k_ ≠ gb224)) (HO230.out) (fun k_ hk => ⟨hk.1.1, ⟨hk.1.2.1, ⟨hk.1.2.2.1, hk.1.2.2.2⟩⟩⟩))))) (Reps.c4 (show Kd.FK k27 _ _ (⟨t231, t232, t233, t234⟩ : S27) [.int .i64 t231, .int .i64 t232, .int .i64 t233, .slice Ao12 t234.length co12] from (k27_mkF _ _ (⟨t231, t232, t233, t234⟩ : S27) (Kd.N_reads' (Kd.N_mono (ok' := (fun k_ => (w.heap.size ≤ k_) ∧ k_ ≠ gb222 ∧ k_ ≠ gb223 ∧ k_ ≠ gb224)) (HO236.out) (fun k_ hk => ⟨hk.1, ⟨hk.2.2.1, ⟨hk.2.2.2.1, hk.2.2.2.2⟩⟩⟩))).2.1 (Kd.N_F (Kd.N_mono (ok' := (fun k_ => (w.heap.size ≤ k_) ∧ k_ ≠ gb222 ∧ k_ ≠ gb223 ∧ k_ ≠ gb224)) (HO236.out) (fun k_ hk => ⟨hk.1, ⟨hk.2.2.1, ⟨hk.2.2.2.1, hk.2.2.2.2⟩⟩⟩))))) (Reps.none _ _))))
 intro v238 w13 ho14 hb hg_ hnew_
 clear hg_ hnew_
 (first | rw [← Ny237.out] at ho14 | (simp only [Int.reduceToNat] at ho14; rw [← Ny237.out] at ho14))
 have HO239 := Aside0.mk (Kd.N_lower ho14 (below_size sqh))
 replace BK222 := Aside0.mk (blk_below (bo BK222) hb)
 replace BK223 := Aside0.mk (blk_below (bo BK223) hb)
 replace BK224 := Aside0.mk (blk_below (bo BK224) hb)
 replace HB := Aside0.mk (below_step sqh hb)
 clear HO230 HO236; clear hb ho14
 obtain ⟨Ao15, co15, eo15⟩ := Kd.N_slice HO239.out
 (first | subst eo15 | (injection eo15 with f1_ f2_ f3_; have f4_ := f1_.symm; have f5_ := f3_.symm; clear f1_ f2_ f3_; subst f4_; subst f5_))
 refine hK.out _ _ (sa4 BK222.out (sc4 BK223.out)) (fun hHeld => ?_)
 clear hK K; refine no 9 ?_; refine pu 5 10 ?_
 refine on 6 none (fun K hK => ?_)
 obtain ⟨hs16, hfs16⟩ := sd1 BK224.out
 have hns16_0 := NB222_224.out
 have hns16_1 := NB223_224.out
 have hms16_0 := NB224_222.out
 have hms16_1 := NB224_223.out
 have hs17 : w13.cell? ⟨gb224, 1, none⟩ = some (.int .i64 0) := (blk_cell BK224.out 1).trans rfl
 have hfs17 := blk_frozen BK224.out 1
 have hns17_0 := NB222_224.out
 have hns17_1 := NB223_224.out
 have hms17_0 := NB224_222.out
 have hms17_1 := NB224_223.out
 have hs18 : w13.cell? ⟨gb224, 2, none⟩ = some (.int .i64 0) := (blk_cell BK224.out 2).trans rfl
 have hfs18 := blk_frozen BK224.out 2
 have hns18_0 := NB222_224.out
 have hns18_1 := NB223_224.out
 have hms18_0 := NB224_222.out
 have hms18_1 := NB224_223.out
 have hs19 : w13.cell? ⟨gb224, 3, none⟩ = some (.slice none 0 0) := (blk_cell BK224.out 3).trans rfl
 have hfs19 := blk_frozen BK224.out 3
 have hns19_0 := NB222_224.out
 have hns19_1 := NB223_224.out
 have hms19_0 := NB224_222.out
 have hms19_1 := NB224_223.out
 refine skip_ (w1 := ?_) (by rfl) rfl ?_ ?_
 rotate_left
 ·go_simp
  rfl
 refine hK.out _ _ ⟨((cell_far (p := ⟨gb224, _, none⟩) NB222_224.out _).trans (((cell_far (p := ⟨gb224, _, none⟩) NB222_224.out _).trans (((cell_far (p := ⟨gb224, _, none⟩) NB222_224.out _).trans (((cell_far (p := ⟨gb224, _, none⟩) NB222_224.out _).trans (hHeld.1)))))))), ((cell_far (p := ⟨gb224, _, none⟩) NB222_224.out _).trans (((cell_far (p := ⟨gb224, _, none⟩) NB222_224.out _).trans (((cell_far (p := ⟨gb224, _, none⟩) NB222_224.out _).trans (((cell_far (p := ⟨gb224, _, none⟩) NB222_224.out _).trans (hHeld.2.1)))))))), ((cell_far (p := ⟨gb224, _, none⟩) NB222_224.out _).trans (((cell_far (p := ⟨gb224, _, none⟩) NB222_224.out _).trans (((cell_far (p := ⟨gb224, _, none⟩) NB222_224.out _).trans (((cell_far (p := ⟨gb224, _, none⟩) NB222_224.out _).trans (hHeld.2.2.1)))))))), ((cell_far (p := ⟨gb224, _, none⟩) NB222_224.out _).trans (((cell_far (p := ⟨gb224, _, none⟩) NB222_224.out _).trans (((cell_far (p := ⟨gb224, _, none⟩) NB222_224.out _).trans (((cell_far (p := ⟨gb224, _, none⟩) NB222_224.out _).trans (hHeld.2.2.2.1)))))))), ((cell_far (p := ⟨gb224, _, none⟩) NB223_224.out _).trans (((cell_far (p := ⟨gb224, _, none⟩) NB223_224.out _).trans (((cell_far (p := ⟨gb224, _, none⟩) NB223_224.out _).trans (((cell_far (p := ⟨gb224, _, none⟩) NB223_224.out _).trans (hHeld.2.2.2.2.1)))))))), ((cell_far (p := ⟨gb224, _, none⟩) NB223_224.out _).trans (((cell_far (p := ⟨gb224, _, none⟩) NB223_224.out _).trans (((cell_far (p := ⟨gb224, _, none⟩) NB223_224.out _).trans (((cell_far (p := ⟨gb224, _, none⟩) NB223_224.out _).trans (hHeld.2.2.2.2.2.1)))))))), ((cell_far (p := ⟨gb224, _, none⟩) NB223_224.out _).trans (((cell_far (p := ⟨gb224, _, none⟩) NB223_224.out _).trans (((cell_far (p := ⟨gb224, _, none⟩) NB223_224.out _).trans (((cell_far (p := ⟨gb224, _, none⟩) NB223_224.out _).trans (hHeld.2.2.2.2.2.2.1)))))))), ((cell_far (p := ⟨gb224, _, none⟩) NB223_224.out _).trans (((cell_far (p := ⟨gb224, _, none⟩) NB223_224.out _).trans (((cell_far (p := ⟨gb224, _, none⟩) NB223_224.out _).trans (((cell_far (p := ⟨gb224, _, none⟩) NB223_224.out _).trans (hHeld.2.2.2.2.2.2.2))))))))⟩ (fun hHeld => ?_)
 clear hK K
 refine dn ?_
 try go_wp2
 refine bodyPost_ret (results_cell_row rfl _ _ gb224 27 #[.int .i64 8, .int .i64 0, .int .i64 0, .slice Ao15 y237.length co15] (0, 0) _ rfl ?_ Tryd.underlying27 rfl sqk) rfl ?_; exact bp BK224
 exact ⟨_, sqe, by (with_reducible repeat (first | apply Kd.N_alloc | apply Kd.N_drewN | apply Kd.N_drew)); exact Kd.N_mono (Kd.N_far (p := ⟨gb224, 3, none⟩) (Kd.N_far (p := ⟨gb224, 2, none⟩) (Kd.N_far (p := ⟨gb224, 1, none⟩) (Kd.N_far (p := ⟨gb224, 0, none⟩) (Kd.N_mono HO239.out (fun k_ hk => (⟨hk, hk.2.2.2⟩ : _ ∧ k_ ≠ gb224))) (fun _ hk => hk.2) (.int .i64 8)) (fun _ hk => hk.2) (.int .i64 0)) (fun _ hk => hk.2) (.int .i64 0)) (fun _ hk => hk.2) (.slice Ao15 y237.length co15)) (fun _ hk => hk.1.1), sqh⟩

end Go.Proofs.YtilcmgdjfhhcdaaDoor.XFnTexts
