/- Written by this session's own program (wip/xprint, which runs over the kit's print): what the functions that the law reaches come to, each proved; and the law's row. Conditions: none. -/
import Derived.Test.YtlmhemcpkmjkiaaUFnAppraisalSq
import Derived.Test.YtlmhemcpkmjkiaaUFnAppraisalx0
import Derived.Test.YtlmhemcpkmjkiaaUFnAppraisalx2
import Derived.Test.YtlmhemcpkmjkiaaUFnAppraisalx5
import Derived.Test.YtlmhemcpkmjkiaaUFnAppraisalx6
import Derived.Test.YtlmhemcpkmjkiaaUFnAppraisalx10
namespace Go.Proofs.Ytlmhemcpkmjkiaa.XFnAppraisal
open Go.RowKit Go.Proofs.YtlmhemcpkmjkiaaW.PrintWords Go.Proofs.YtlmhemcpkmjkiaaW.PrintLast Go.Proofs.YtlmhemcpkmjkiaaW.PrintMore Go.Proofs.YtlmhemcpkmjkiaaSq
attribute [local go_sem] max2_int min2_int max_two min_two max_three min_three max_four min_four   -- for this text's walks alone
set_option linter.unusedVariables false
set_option linter.unusedSimpArgs false

/-! ### spec_DrawHealthFact: function 61 -/
def spec_DrawHealthFact.f (k : Nat) (l0 : List Int) : Option (Int × List Int × List Int × List Int × Int × Int × Int × Int × Int × Int × List Int × Int × Int × Int) := (spec_DrawCheckQuote.f k l0).bind fun bt416 => ((spec_l1New.f k l0).bind fun bt429 => ((spec_l13Allowed.f k bt429.1 bt429.2.1 bt429.2.2).bind fun bt433 => ((spec_l1Int.f bt429.1 bt433.2.2.2.2.1 bt433.2.2.2.2.2 (([0, 10, 20, (-1)] : List Int))).bind fun bt448 => (some (bt433.1, bt433.2.1, bt433.2.2.1, bt433.2.2.2.1, bt416.1, bt416.2.1, bt416.2.2.1, bt416.2.2.2.1, bt416.2.2.2.2.1, bt416.2.2.2.2.2.1, bt416.2.2.2.2.2.2.1, bt416.2.2.2.2.2.2.2.1, bt416.2.2.2.2.2.2.2.2.1, bt448.1)))))
def spec_DrawHealthFact.T3 : Bool × List (List Nat × List Nat) := (true, [([], []), ([0], [0]), ([], []), ([], []), ([], []), ([], []), ([], []), ([], []), ([], []), ([7, 8, 1], [7, 8]), ([1, 9, 0, 1], [1]), ([2, 10, 0, 1, 2, 10], [2]), ([3, 11, 0, 1, 2, 3, 10, 11], [3]), ([4, 12, 0, 1, 2, 3, 4, 10, 11, 12], [4]), ([5, 13, 0, 1, 2, 3, 4, 5, 10, 11, 12, 13], [5]), ([6, 14, 0, 1, 2, 3, 4, 5, 6, 10, 11, 12, 13, 14], [6]), ([9, 15, 0, 1, 2, 3, 4, 5, 6, 7, 8, 9, 10, 11, 12, 13, 14, 15], [9])])
def spec_DrawHealthFact.B3 : List Nat := [0, 1, 0, 0, 0, 0, 0, 0, 0, 387, 899, 1927, 3983, 8095, 16319, 32767, 65535]
theorem spec_DrawHealthFact.tab3 : rtab .any (opsOf Try.f61 3) = spec_DrawHealthFact.T3 := by kernel_rfl
theorem spec_DrawHealthFact.bits3 : waitsOk spec_DrawHealthFact.T3.2 spec_DrawHealthFact.B3 = true := by kernel_rfl
theorem z61_0 {Q : Prop} (g : Q := by repeat (first | (with_reducible first | exact HB.out | apply below_alloc | apply pw_below_drewN | apply below_drew1 | refine below_set ?_ (IsS125.ge HI432.out) | refine below_set ?_ GE414.out | refine below_set ?_ GE415.out | refine below_set ?_ GE428.out) | exact HB.out)) : Q := g
theorem z61_1 {Q : Prop} (g : Q := by repeat (first | (with_reducible first | exact HI432.out | apply IsS125.alloc | apply IsS125.drewN | apply IsS125.drew | apply IsS125.set_1 | apply IsS125.set_2 | refine IsS125.far ?_ NB432_414.out _ | refine IsS125.far ?_ NB432_415.out _ | refine IsS125.far ?_ NB432_428.out _) | exact HI432.out)) : Q := g
set_option maxHeartbeats 8000000 in
set_option maxRecDepth 100000 in
theorem spec_DrawHealthFact.calls (k : Nat) (A0 : Option Addr) (c0 : Nat) (l0 : List Int) (r1 : Int) (r2 : List Int) (r3 : List Int) (r4 : List Int) (r5 : Int) (r6 : Int) (r7 : Int) (r8 : Int) (r9 : Int) (r10 : Int) (r11 : List Int) (r12 : Int) (r13 : Int) (r14 : Int) (w : World) (hr0 : Kd.C (Kd.int .u8) w A0 l0.length l0) (hc0 : l0.length ≤ c0) (h : spec_DrawHealthFact.f k l0 = some (r1, r2, r3, r4, r5, r6, r7, r8, r9, r10, r11, r12, r13, r14)) :
  Calls Try.prog 61 #[.slice A0 l0.length c0] w fun e w' => ∃ v1_ v2_ v3_ v10_ : Value, e = .returned (.tuple #[.agg #[.int .i64 r1, v1_, v2_, v3_], .int .i64 r5, .agg #[.int .i64 r6, .int .i64 r7, .int .i64 r8, .int .i64 r9, .int .i64 r10], v10_, .int .i64 r12, .int .i64 r13, .int .i64 r14]) ∧ Kd.R (Kd.int .i64) 3 w' w.heap.size (fun _ => True) v1_ r2 ∧ Kd.R (Kd.int .i64) 3 w' w.heap.size (fun _ => True) v2_ r3 ∧ Kd.R (Kd.int .i64) 3 w' w.heap.size (fun _ => True) v3_ r4 ∧ Kd.R (Kd.int .i64) 3 w' w.heap.size (fun _ => True) v10_ r11 ∧ Below w.heap.size w w' := by
 have hu33 := Try.underlying33
 have hu45 := Try.underlying45
 have HR0 := Aside0.mk hr0
 have HC0 := Aside0.mk hc0
 clear hr0 hc0
 have HB := Aside0.mk (Below.refl w.heap.size w)
 have H : ((spec_DrawCheckQuote.f k l0).bind fun bt416 => ((spec_l1New.f k l0).bind fun bt429 => ((spec_l13Allowed.f k bt429.1 bt429.2.1 bt429.2.2).bind fun bt433 => ((spec_l1Int.f bt429.1 bt433.2.2.2.2.1 bt433.2.2.2.2.2 (([0, 10, 20, (-1)] : List Int))).bind fun bt448 => (some (bt433.1, bt433.2.1, bt433.2.2.1, bt433.2.2.2.1, bt416.1, bt416.2.1, bt416.2.2.1, bt416.2.2.2.1, bt416.2.2.2.2.1, bt416.2.2.2.2.2.1, bt416.2.2.2.2.2.2.1, bt416.2.2.2.2.2.2.2.1, bt416.2.2.2.2.2.2.2.2.1, bt448.1)))))) = some (r1, r2, r3, r4, r5, r6, r7, r8, r9, r10, r11, r12, r13, r14) := h
 clear h
 obtain ⟨⟨t416, t417, t418, t419, t420, t421, t422, t425, t426, t427⟩, A2, H⟩ := bA H
 dsimp only at H
 obtain ⟨⟨t429, t430, t431⟩, A3, H⟩ := bA H
 dsimp only at H
 obtain ⟨⟨t433, t434, t437, t440, t443, t444⟩, A4, H⟩ := bA H
 dsimp only at H
 obtain ⟨y445, hy445⟩ : ∃ y_ : List Int, y_ = (([0, 10, 20, (-1)] : List Int)) := ⟨_, rfl⟩
 replace H : ((spec_l1Int.f t429 t443 t444 y445).bind fun bt448 => (some (t433, t434, t437, t440, t416, t417, t418, t419, t420, t421, t422, t425, t426, bt448.1))) = some (r1, r2, r3, r4, r5, r6, r7, r8, r9, r10, r11, r12, r13, r14) := by first | (rw [hy445]; with_reducible exact H) | (have H2_ := (Option.bind_some _ _).symm.trans H; rw [hy445]; with_reducible exact H2_) | (have H2_ := (Option.bind_some _ _).symm.trans H; with_reducible exact H2_) | with_reducible exact H | (rw [hy445]; exact H) | exact H
 have Ny445 := Aside0.mk hy445
 clear hy445
 obtain ⟨⟨t448, t449, t450⟩, A5, H⟩ := bA H
 dsimp only at H
 simp only [Option.some.injEq, Prod.mk.injEq] at H
 obtain ⟨rfl, rfl, rfl, rfl, rfl, rfl, rfl, rfl, rfl, rfl, rfl, rfl, rfl, rfl⟩ := H
 go_enter Try.func61, Try.ntmps61
 try go_wp2_with (first | ((with_reducible refine gate_dst (N := 2) rfl ?_); refine bx (N := 2) (cs := #[.int .i64 0, .slice none 0 0, .slice none 0 0, .slice none 0 0]) (t := 33) ?_; intro gb414 hg w6 hbox hb; have BK414 := Aside0.mk (hbox); have GW414 := Aside0.mk ((by rw [hg]; exact (below_size sqh) : w.heap.size ≤ gb414)); have GE414 := Aside0.mk ((by rw [hg]; exact (below_size sqh) : w.heap.size ≤ gb414)); replace HB := Aside0.mk (below_step sqh hb); clear hb hbox hg) | ((with_reducible refine gate_dst (N := 4) rfl ?_); refine bx (N := 4) (cs := #[.int .i64 0, .int .i64 0, .int .i64 0, .int .i64 0, .int .i64 0]) (t := 45) ?_; intro gb415 hg w7 hbox hb; have BK415 := Aside0.mk (hbox); have GW415 := Aside0.mk ((by rw [hg]; exact (below_size sqh) : w.heap.size ≤ gb415)); have GE415 := Aside0.mk ((by rw [hg]; exact (below_size sqh) : w.heap.size ≤ gb415)); replace HB := Aside0.mk (below_step sqh hb); have NB414_415 := Aside0.mk ((by rw [hg]; exact Nat.ne_of_lt (blk_lt (bo BK414)) : gb414 ≠ gb415)); have NB415_414 := Aside0.mk ((by rw [hg]; exact Nat.ne_of_gt (blk_lt (bo BK414)) : gb415 ≠ gb414)); replace BK414 := Aside0.mk (blk_below (bo BK414) hb); clear hb hbox hg) | ((with_reducible refine gate_callee (f := 119) rfl ?_); refine goesL_ (some 18) rfl rfl Try.func119 sqk rfl #[.slice A0 l0.length c0] rfl sqm ?_; (with_reducible refine (spec_DrawCheckQuote.calls k _ _ l0 t416 t417 t418 t419 t420 t421 t422 t425 t426 t427 _ ?side1 ?side2 A2.out).mono ?_); (case side1 => exact sqn (Kd.C_below HR0.out HB.out)); (case side2 => exact HC0.out); rintro e w8 ⟨v423, rfl, ho0, hb⟩; refine ⟨_, rfl, ?_⟩; have HO424 := Aside0.mk (Kd.R_mono (ok' := fun _ => True) (Kd.R_lower ho0 (below_size sqh)) (fun _ _ => trivial)); replace BK414 := Aside0.mk (blk_below (bo BK414) hb); replace BK415 := Aside0.mk (blk_below (bo BK415) hb); replace HB := Aside0.mk (below_step sqh hb); (try clear hb); (try clear ho0)) | ((with_reducible refine gate_dst (N := 10) rfl ?_); refine bx (N := 10) (cs := #[.int .i64 0, .int .i64 0, .int .i64 0, .int .i64 0, .int .i64 0]) (t := 45) ?_; intro gb428 hg w9 hbox hb; replace HO424 := Aside0.mk (Kd.R_below (sqq HO424.out) hb); have BK428 := Aside0.mk (hbox); have GW428 := Aside0.mk ((by rw [hg]; exact (below_size sqh) : w.heap.size ≤ gb428)); have GE428 := Aside0.mk ((by rw [hg]; exact (below_size sqh) : w.heap.size ≤ gb428)); replace HB := Aside0.mk (below_step sqh hb); have NB414_428 := Aside0.mk ((by rw [hg]; exact Nat.ne_of_lt (blk_lt (bo BK414)) : gb414 ≠ gb428)); have NB428_414 := Aside0.mk ((by rw [hg]; exact Nat.ne_of_gt (blk_lt (bo BK414)) : gb428 ≠ gb414)); replace BK414 := Aside0.mk (blk_below (bo BK414) hb); have NB415_428 := Aside0.mk ((by rw [hg]; exact Nat.ne_of_lt (blk_lt (bo BK415)) : gb415 ≠ gb428)); have NB428_415 := Aside0.mk ((by rw [hg]; exact Nat.ne_of_gt (blk_lt (bo BK415)) : gb428 ≠ gb415)); replace BK415 := Aside0.mk (blk_below (bo BK415) hb); clear hb hbox hg; have hnb10 := NB428_414.out; have hnc10 := NB414_428.out; have hnb11 := NB428_415.out; have hnc11 := NB415_428.out; obtain ⟨hcz12_0, hcz12_1, hcz12_2, hcz12_3, hcz12_4, hfz12_0, hfz12_1, hfz12_2, hfz12_3, hfz12_4⟩ := sd5 BK428.out) | ((with_reducible refine gate_callee (f := 97) rfl ?_); refine goesL_ (some 26) rfl rfl Try.func97 sqk rfl #[.slice A0 l0.length c0] rfl sqm ?_; (with_reducible refine (spec_l1New.calls k _ _ l0 t429 t430 t431 w _ ?side1 ?side2 ?side3 A3.out).mono ?_); (case side1 => exact sqh); (case side2 => exact HR0.out); (case side3 => exact HC0.out); rintro e w13 ⟨g432, rfl, hi, hb, hb2⟩; refine ⟨_, rfl, ?_⟩; replace HO424 := Aside0.mk (Kd.R_below (sqR1 HO424 BK428) hb2); replace HB := Aside0.mk (hb); have HI432 := Aside0.mk (hi); have NB432_414 := Aside0.mk (IsS125.ne_blk hi (blk_below (g := gb414) (o := .cells #[.int .i64 0, .slice none 0 0, .slice none 0 0, .slice none 0 0] 33 (0, 0)) (bp BK414) hb2) (by decide)); have NB414_432 := Aside0.mk (Ne.symm (IsS125.ne_blk hi (blk_below (g := gb414) (o := .cells #[.int .i64 0, .slice none 0 0, .slice none 0 0, .slice none 0 0] 33 (0, 0)) (bp BK414) hb2) (by decide))); replace BK414 := Aside0.mk (blk_below (g := gb414) (o := .cells #[.int .i64 0, .slice none 0 0, .slice none 0 0, .slice none 0 0] 33 (0, 0)) (bp BK414) hb2); have NB432_415 := Aside0.mk (IsS125.ne_blk hi (blk_below (g := gb415) (o := .cells #[.int .i64 0, .int .i64 0, .int .i64 0, .int .i64 0, .int .i64 0] 45 (0, 0)) (bp BK415) hb2) (by decide)); have NB415_432 := Aside0.mk (Ne.symm (IsS125.ne_blk hi (blk_below (g := gb415) (o := .cells #[.int .i64 0, .int .i64 0, .int .i64 0, .int .i64 0, .int .i64 0] 45 (0, 0)) (bp BK415) hb2) (by decide))); replace BK415 := Aside0.mk (blk_below (g := gb415) (o := .cells #[.int .i64 0, .int .i64 0, .int .i64 0, .int .i64 0, .int .i64 0] 45 (0, 0)) (bp BK415) hb2); have NB432_428 := Aside0.mk (IsS125.ne_blk hi (blk_below (g := gb428) (o := .cells #[.int .i64 t417, .int .i64 t418, .int .i64 t419, .int .i64 t420, .int .i64 t421] 45 (0, 0)) (bp BK428) hb2) (by decide)); have NB428_432 := Aside0.mk (Ne.symm (IsS125.ne_blk hi (blk_below (g := gb428) (o := .cells #[.int .i64 t417, .int .i64 t418, .int .i64 t419, .int .i64 t420, .int .i64 t421] 45 (0, 0)) (bp BK428) hb2) (by decide))); replace BK428 := Aside0.mk (blk_below (g := gb428) (o := .cells #[.int .i64 t417, .int .i64 t418, .int .i64 t419, .int .i64 t420, .int .i64 t421] 45 (0, 0)) (bp BK428) hb2); (try clear hb); (try clear hb2); (try clear hi)))
 replace HO424 := Aside0.mk (Kd.R_drew HO424.out)
 replace BK414 := Aside0.mk (blk_drew BK414.out)
 replace BK415 := Aside0.mk (blk_drew BK415.out)
 replace BK428 := Aside0.mk (blk_drew BK428.out)
 replace HI432 := Aside0.mk (IsS125.drew HI432.out)
 replace HB := Aside0.mk (below_drew1 HB.out)
 refine start_ (n := 17) (S := fun w' => True) (ds := []) #[false, false, false, false, false, false, false, false, false, false, false, false, false, false, false, false, false] sqk rfl rfl trivial (fun hHeld => ?_); refine with_tabW spec_DrawHealthFact.tab3 spec_DrawHealthFact.bits3 (fun HT_ HW_ => ?_)
 generalize w13.drew = w14 at HO424 BK414 BK415 BK428 HI432 HB hHeld ⊢
 refine pu 0 27 ?_; refine pu 2 29 ?_; refine pu 4 31 ?_; refine pu 5 32 ?_; refine pu 6 33 ?_; refine pu 7 34 ?_
 refine inv_at [1, 3, 8, 9, 10, 11, 12, 13, 14, 15, 16] (fun a0_ b a w' => ∃ (v435 : Value) (v438 : Value) (v441 : Value) (v446 : Value) (m1_ : Value), a = putSel a0_ b [(1, 28, m1_), (3, 30, .agg #[.int .i64 t417, .int .i64 t418, .int .i64 t419, .int .i64 t420, .int .i64 t421]), (8, 35, v446), (9, 36, .int .i64 t448), (11, 3, .int .i64 t416), (13, 5, v423), (14, 6, .int .i64 t425), (15, 7, .int .i64 t426), (16, 8, .int .i64 t448)] ∧ (Kd.R (Kd.int .i64) 3 w' w.heap.size (fun _ => True) v423 t422) ∧ (b 10 = false → w'.heap[gb414]? = some (.cells #[.int .i64 0, .slice none 0 0, .slice none 0 0, .slice none 0 0] 33 (0, 0))) ∧ (b 12 = false → w'.heap[gb415]? = some (.cells #[.int .i64 0, .int .i64 0, .int .i64 0, .int .i64 0, .int .i64 0] 45 (0, 0))) ∧ (w'.heap[gb428]? = some (.cells #[.int .i64 t417, .int .i64 t418, .int .i64 t419, .int .i64 t420, .int .i64 t421] 45 (0, 0))) ∧ (b 1 = false → IsS125 w w' g432 t429 t430 t431) ∧ (Below w.heap.size w w') ∧ (b 1 = true → Kd.R (Kd.int .i64) 3 w' w.heap.size (fun _ => True) v435 t434) ∧ (b 1 = true → Kd.R (Kd.int .i64) 3 w' w.heap.size (fun _ => True) v438 t437) ∧ (b 1 = true → Kd.R (Kd.int .i64) 3 w' w.heap.size (fun _ => True) v441 t440) ∧ (b 1 = true → b 9 = false → IsS125 w w' g432 t429 t443 t444) ∧ (b 8 = true → Kd.R (Kd.int .i64) 3 w' w.heap.size (fun _ => True) v446 y445) ∧ (b 9 = true → IsS125 w w' g432 t429 t449 t450) ∧ (b 10 = true → w'.heap[gb414]? = some (.cells #[.int .i64 t433, v435, v438, v441] 33 (0, 0))) ∧ (b 12 = true → w'.heap[gb415]? = some (.cells #[.int .i64 t417, .int .i64 t418, .int .i64 t419, .int .i64 t420, .int .i64 t421] 45 (0, 0))) ∧ (b 1 = true → (m1_ : Value) = .agg #[.int .i64 t433, v435, v438, v441])) HT_.out HW_.out sqk sqk ?_ ?_ ?_
 ·exact ⟨.bool false, .bool false, .bool false, .bool false, .bool false, by simp only [putSel, Bool.false_eq_true, if_false], HO424.out, fun _ => BK414.out, fun _ => BK415.out, BK428.out, fun _ => HI432.out, HB.out, fun h_ => absurd h_ (by decide), fun h_ => absurd h_ (by decide), fun h_ => absurd h_ (by decide), fun h_ => absurd h_ (by decide), fun h_ => absurd h_ (by decide), fun h_ => absurd h_ (by decide), fun h_ => absurd h_ (by decide), fun h_ => absurd h_ (by decide), fun h_ => absurd h_ (by decide)⟩
 ·skip
  clear BK414 BK415 BK428 HB HI432 HO424
  refine steps_cons ?_ ?_
  ·rintro b a w' ⟨v435, v438, v441, v446, m1_, ha, Q_HO424, Q_BK414, Q_BK415, Q_BK428, Q_HI432, Q_HB, Q_HO436, Q_HO439, Q_HO442, Q_HI432_e1, Q_HO447, Q_HI432_e9, Q_BK414_e10, Q_BK415_e12, Q_X1_⟩ hb_ hon hoff
   refine ⟨_, rfl, fun K hK => ?_⟩
   have e27 : a.tmps[27]? = some (.pointer (some ⟨g432, 0, none⟩)) := by rw [ha]; exact (putSel_off rfl).trans rfl
   replace ha := Aside0.mk ha
   have HO424 := Aside0.mk Q_HO424
   have BK414 := Aside0.mk (Q_BK414 (hoff 10 sqk))
   have BK415 := Aside0.mk (Q_BK415 (hoff 12 sqk))
   have BK428 := Aside0.mk Q_BK428
   have HI432 := Aside0.mk (Q_HI432 hb_)
   have HB := Aside0.mk Q_HB
   refine goes_ Try.func116 sqk rfl #[.pointer (some ⟨g432, 0, none⟩)] (by rfl) rfl rfl (by first | (simp only [List.map_toArray, List.map_cons, List.map_nil, Act.eval, Array.getD_eq_getD_getElem?, Option.getD_some, e27]; done) | (simp only [List.map_toArray, List.map_cons, List.map_nil, Act.eval, Array.getD_eq_getD_getElem?, Option.getD_some, e27]; rfl)) ?_
   with_reducible refine (spec_l13Allowed.calls k g432 t429 t430 t431 t433 t434 t437 t440 t443 t444 w _ ?side1 ?side2 A4.out).mono ?_
   (case side1 => repeat (first | (with_reducible first | exact HI432.out | apply IsS125.alloc | apply IsS125.drewN | apply IsS125.drew | apply IsS125.set_1 | apply IsS125.set_2 | refine IsS125.far ?_ NB432_414.out _ | refine IsS125.far ?_ NB432_415.out _ | refine IsS125.far ?_ NB432_428.out _) | exact HI432.out))
   (case side2 => exact z61_0)
   rintro e w15 ⟨v435, v438, v441, rfl, ho0, ho1, ho2, hi, hb, hk⟩
   refine ⟨_, rfl, ?_⟩
   have n0_ := Aside0.mk (KeepBut.blk hk (g' := gb414) (o := .cells #[.int .i64 0, .slice none 0 0, .slice none 0 0, .slice none 0 0] 33 (0, 0)) (sqb BK414.out) NB414_432.out (by simp))
   have n1_ := Aside0.mk (KeepBut.blk hk (g' := gb415) (o := .cells #[.int .i64 0, .int .i64 0, .int .i64 0, .int .i64 0, .int .i64 0] 45 (0, 0)) (sqb BK415.out) NB415_432.out (by simp))
   have n2_ := Aside0.mk (Kd.R_mono (ok' := fun _ => True) (Kd.R_keep (IsS125.apart (show IsS125 w _ g432 t429 t430 t431 from by repeat (first | (with_reducible first | exact HI432.out | apply IsS125.alloc | apply IsS125.drewN | apply IsS125.drew | apply IsS125.set_1 | apply IsS125.set_2 | refine IsS125.far ?_ NB432_414.out _ | refine IsS125.far ?_ NB432_415.out _ | refine IsS125.far ?_ NB432_428.out _) | exact HI432.out)) (sqq HO424.out) (by decide)) hk (fun _ h => h.2)) (fun _ _ => trivial))
   have n3_ := Aside0.mk (KeepBut.blk hk (g' := gb428) (o := .cells #[.int .i64 t417, .int .i64 t418, .int .i64 t419, .int .i64 t420, .int .i64 t421] 45 (0, 0)) (sqb BK428.out) NB428_432.out (by simp))
   have n4_ := Aside0.mk (Kd.R_mono (ok' := fun _ => True) (Kd.R_lower ho0 (below_size z61_0)) (fun _ _ => trivial))
   have n5_ := Aside0.mk (Kd.R_mono (ok' := fun _ => True) (Kd.R_lower ho1 (below_size z61_0)) (fun _ _ => trivial))
   have n6_ := Aside0.mk (Kd.R_mono (ok' := fun _ => True) (Kd.R_lower ho2 (below_size z61_0)) (fun _ _ => trivial))
   have n7_ := Aside0.mk (hb)
   have n8_ := Aside0.mk (hi)
   have z_HO447 := fun (h0_ : b 8 = true) => (show Kd.R (Kd.int .i64) 3 w15 w.heap.size (fun _ => True) v446 y445 from by first | exact (Kd.R_mono (ok' := fun _ => True) (Kd.R_keep (IsS125.apart (show IsS125 w _ g432 t429 t430 t431 from by repeat (first | (with_reducible first | exact HI432.out | apply IsS125.alloc | apply IsS125.drewN | apply IsS125.drew | apply IsS125.set_1 | apply IsS125.set_2 | refine IsS125.far ?_ NB432_414.out _ | refine IsS125.far ?_ NB432_415.out _ | refine IsS125.far ?_ NB432_428.out _) | exact HI432.out)) (by (with_reducible repeat (first | apply Kd.R_alloc | apply Kd.R_drewN | apply Kd.R_drew)); exact (Q_HO447 h0_)) (by decide)) hk (fun _ h => h.2)) (fun _ _ => trivial)) | exact Kd.R_mono (Kd.R_mono (ok' := fun _ => True) (Kd.R_keep (IsS125.apart (show IsS125 w _ g432 t429 t430 t431 from by repeat (first | (with_reducible first | exact HI432.out | apply IsS125.alloc | apply IsS125.drewN | apply IsS125.drew | apply IsS125.set_1 | apply IsS125.set_2 | refine IsS125.far ?_ NB432_414.out _ | refine IsS125.far ?_ NB432_415.out _ | refine IsS125.far ?_ NB432_428.out _) | exact HI432.out)) (by (with_reducible repeat (first | apply Kd.R_alloc | apply Kd.R_drewN | apply Kd.R_drew)); exact (Q_HO447 h0_)) (by decide)) hk (fun _ h => h.2)) (fun _ _ => trivial)) (fun _ h_ => by first | trivial | exact h_ | exact h_.1))
   clear BK414; clear BK415; clear HO424; clear BK428; clear HB; clear HI432
   have BK414 := n0_
   have BK415 := n1_
   have HO424 := n2_
   have BK428 := n3_
   have HO436 := n4_
   have HO439 := n5_
   have HO442 := n6_
   have HB := n7_
   have HI432 := n8_
   clear n0_ n1_ n2_ n3_ n4_ n5_ n6_ n7_ n8_
   (try clear hb)
   (try clear hb2)
   (try clear hk)
   (try clear hi)
   (try clear ho0)
   (try clear ho1)
   (try clear ho2)
   refine hK.out _ _ ⟨v435, v438, v441, v446, (.agg #[.int .i64 t433, v435, v438, v441]), (by rw [ha.out]; exact putSel_upk 0 hb_ rfl rfl rfl), (sqR0 HO424), fun _ => (sqb BK414.out), fun _ => (sqb BK415.out), (sqb BK428.out), fun h0_ => absurd ((up_self b 1).symm.trans h0_) (by decide), z61_0, fun _ => (sqR0 HO436), fun _ => (sqR0 HO439), fun _ => (sqR0 HO442), fun _ _ => z61_1, z_HO447, fun h0_ => absurd ((hoff 9 sqk).symm.trans h0_) (by decide), fun h0_ => absurd ((hoff 10 sqk).symm.trans h0_) (by decide), fun h0_ => absurd ((hoff 12 sqk).symm.trans h0_) (by decide), fun _ => rfl⟩
  refine steps_cons ?_ ?_
  ·rintro b a w' ⟨v435, v438, v441, v446, m1_, ha, Q_HO424, Q_BK414, Q_BK415, Q_BK428, Q_HI432, Q_HB, Q_HO436, Q_HO439, Q_HO442, Q_HI432_e1, Q_HO447, Q_HI432_e9, Q_BK414_e10, Q_BK415_e12, Q_X1_⟩ hb_ hon hoff
   refine ⟨_, rfl, fun K hK => ?_⟩
   have e10 : a.tmps[10]? = some (.pointer (some ⟨gb428, 0, none⟩)) := by rw [ha]; exact (putSel_off rfl).trans rfl
   replace ha := Aside0.mk ha
   have HO424 := Aside0.mk Q_HO424
   have BK415 := Aside0.mk (Q_BK415 (hoff 12 sqk))
   have BK428 := Aside0.mk Q_BK428
   have HB := Aside0.mk Q_HB
   obtain ⟨hc0_, hc1_, hc2_, hc3_, hc4_⟩ := sc5 BK428.out
   refine value_ (w1 := w') (v := .agg #[.int .i64 t417, .int .i64 t418, .int .i64 t419, .int .i64 t420, .int .i64 t421]) (by rfl) rfl ?_ ?_
   ·go_simp
    (try simp only [i64_w])
    try rfl
   refine hK.out _ _ ⟨v435, v438, v441, v446, m1_, (by rw [ha.out]; exact putSel_upk 1 hb_ rfl rfl rfl), Q_HO424, Q_BK414, Q_BK415, Q_BK428, Q_HI432, Q_HB, Q_HO436, Q_HO439, Q_HO442, Q_HI432_e1, Q_HO447, Q_HI432_e9, Q_BK414_e10, fun h0_ => absurd ((hoff 12 sqk).symm.trans h0_) (by decide), Q_X1_⟩
  refine steps_cons ?_ ?_
  ·rintro b a w' ⟨v435, v438, v441, v446, m1_, ha, Q_HO424, Q_BK414, Q_BK415, Q_BK428, Q_HI432, Q_HB, Q_HO436, Q_HO439, Q_HO442, Q_HI432_e1, Q_HO447, Q_HI432_e9, Q_BK414_e10, Q_BK415_e12, Q_X1_⟩ hb_ hon hoff
   refine ⟨_, rfl, fun K hK => ?_⟩
   replace ha := Aside0.mk ha
   have HO424 := Aside0.mk Q_HO424
   have BK414 := Aside0.mk (Q_BK414 (hoff 10 sqk))
   have BK415 := Aside0.mk (Q_BK415 (hoff 12 sqk))
   have BK428 := Aside0.mk Q_BK428
   have HB := Aside0.mk Q_HB
   refine Kd.R_lit_step (Kd.int .i64) _ 3 ?hg (N := 35) ?hd (xs := ([0, 10, 20, (-1)] : List Int)) (inner := [.int .i64 0, .int .i64 10, .int .i64 20, .int .i64 (-1)]) (ok := fun _ => True) (okp := fun _ => True) ?hr ?hp (fun _ hk => hk) trivial (Below.refl _ _) (Nat.le_refl _) (by simp) ?_; (case hd => rfl); (case hg => rfl); (case hr => first | (go_simp; done) | (go_simp; rfl)); (case hp => exact (Reps.one (show Kd.M (Kd.int .i64) _ _ _ 0 [.int .i64 0] from rfl) (Reps.one (show Kd.M (Kd.int .i64) _ _ _ 10 [.int .i64 10] from rfl) (Reps.one (show Kd.M (Kd.int .i64) _ _ _ 20 [.int .i64 20] from rfl) (Reps.one (show Kd.M (Kd.int .i64) _ _ _ (-1) [.int .i64 (-1)] from rfl) (Reps.none _ _))))))
   intro v446 w15 ho16 hb hg_ hnew_
   clear hg_ hnew_
   (first | rw [← Ny445.out] at ho16 | (simp only [Int.reduceToNat] at ho16; rw [← Ny445.out] at ho16))
   have n0_ := Aside0.mk (Kd.R_elder' (sqq HO424.out) (Kd.R_base ho16) hb)
   have n1_ := Aside0.mk (Kd.R_mono (ok' := fun _ => True) (Kd.R_lower ho16 (below_size sqh)) (fun _ _ => trivial))
   have n2_ := Aside0.mk (blk_below (bo BK414) hb)
   have n3_ := Aside0.mk (blk_below (bo BK415) hb)
   have n4_ := Aside0.mk (blk_below (bo BK428) hb)
   have n6_ := Aside0.mk (below_step sqh hb)
   have z_HI432 := fun (h0_ : b 1 = false) => (show IsS125 w w15 g432 t429 t430 t431 from by first | exact (IsS125.below (by repeat (first | (with_reducible first | exact (Q_HI432 h0_) | apply IsS125.alloc | apply IsS125.drewN | apply IsS125.drew | apply IsS125.set_1 | apply IsS125.set_2 | refine IsS125.far ?_ NB432_414.out _ | refine IsS125.far ?_ NB432_415.out _ | refine IsS125.far ?_ NB432_428.out _) | exact (Q_HI432 h0_))) hb))
   have z_HO436 := fun (h0_ : b 1 = true) => (show Kd.R (Kd.int .i64) 3 w15 w.heap.size (fun _ => True) v435 t434 from by first | exact (Kd.R_elder' (by (with_reducible repeat (first | apply Kd.R_alloc | apply Kd.R_drewN | apply Kd.R_drew)); exact (Q_HO436 h0_)) (Kd.R_base ho16) hb) | exact Kd.R_mono (Kd.R_elder' (by (with_reducible repeat (first | apply Kd.R_alloc | apply Kd.R_drewN | apply Kd.R_drew)); exact (Q_HO436 h0_)) (Kd.R_base ho16) hb) (fun _ h_ => by first | trivial | exact h_ | exact h_.1))
   have z_HO439 := fun (h0_ : b 1 = true) => (show Kd.R (Kd.int .i64) 3 w15 w.heap.size (fun _ => True) v438 t437 from by first | exact (Kd.R_elder' (by (with_reducible repeat (first | apply Kd.R_alloc | apply Kd.R_drewN | apply Kd.R_drew)); exact (Q_HO439 h0_)) (Kd.R_base ho16) hb) | exact Kd.R_mono (Kd.R_elder' (by (with_reducible repeat (first | apply Kd.R_alloc | apply Kd.R_drewN | apply Kd.R_drew)); exact (Q_HO439 h0_)) (Kd.R_base ho16) hb) (fun _ h_ => by first | trivial | exact h_ | exact h_.1))
   have z_HO442 := fun (h0_ : b 1 = true) => (show Kd.R (Kd.int .i64) 3 w15 w.heap.size (fun _ => True) v441 t440 from by first | exact (Kd.R_elder' (by (with_reducible repeat (first | apply Kd.R_alloc | apply Kd.R_drewN | apply Kd.R_drew)); exact (Q_HO442 h0_)) (Kd.R_base ho16) hb) | exact Kd.R_mono (Kd.R_elder' (by (with_reducible repeat (first | apply Kd.R_alloc | apply Kd.R_drewN | apply Kd.R_drew)); exact (Q_HO442 h0_)) (Kd.R_base ho16) hb) (fun _ h_ => by first | trivial | exact h_ | exact h_.1))
   have z_HI432_e1 := fun (h0_ : b 1 = true) (h1_ : b 9 = false) => (show IsS125 w w15 g432 t429 t443 t444 from by first | exact (IsS125.below (by repeat (first | (with_reducible first | exact (Q_HI432_e1 h0_ h1_) | apply IsS125.alloc | apply IsS125.drewN | apply IsS125.drew | apply IsS125.set_1 | apply IsS125.set_2 | refine IsS125.far ?_ NB432_414.out _ | refine IsS125.far ?_ NB432_415.out _ | refine IsS125.far ?_ NB432_428.out _) | exact (Q_HI432_e1 h0_ h1_))) hb))
   clear HO424; clear BK414; clear BK415; clear BK428; clear HB
   have HO424 := n0_
   have HO447 := n1_
   have BK414 := n2_
   have BK415 := n3_
   have BK428 := n4_
   have HB := n6_
   clear n0_ n1_ n2_ n3_ n4_ n6_; clear hb ho16
   refine hK.out _ _ ⟨v435, v438, v441, v446, m1_, (by rw [ha.out]; exact putSel_upk 2 hb_ rfl rfl rfl), (sqR0 HO424), fun _ => (sqb BK414.out), fun _ => (sqb BK415.out), (sqb BK428.out), z_HI432, sqh, z_HO436, z_HO439, z_HO442, z_HI432_e1, fun _ => (sqR0 HO447), fun h0_ => absurd ((hoff 9 sqk).symm.trans h0_) (by decide), fun h0_ => absurd ((hoff 10 sqk).symm.trans h0_) (by decide), fun h0_ => absurd ((hoff 12 sqk).symm.trans h0_) (by decide), Q_X1_⟩
  refine steps_cons ?_ ?_
  ·rintro b a w' ⟨v435, v438, v441, v446, m1_, ha, Q_HO424, Q_BK414, Q_BK415, Q_BK428, Q_HI432, Q_HB, Q_HO436, Q_HO439, Q_HO442, Q_HI432_e1, Q_HO447, Q_HI432_e9, Q_BK414_e10, Q_BK415_e12, Q_X1_⟩ hb_ hon hoff
   refine ⟨_, rfl, fun K hK => ?_⟩
   have e34 : a.tmps[34]? = some (.pointer (some ⟨g432, 0, none⟩)) := by rw [ha]; exact (putSel_off rfl).trans rfl
   have e35 : a.tmps[35]? = some (v446) := by rw [ha]; exact putSel_on (e := (8, 35, v446)) 2 rfl rfl (hon 8 sqk) rfl
   replace ha := Aside0.mk ha
   have HO424 := Aside0.mk Q_HO424
   have BK414 := Aside0.mk (Q_BK414 (hoff 10 sqk))
   have BK415 := Aside0.mk (Q_BK415 (hoff 12 sqk))
   have BK428 := Aside0.mk Q_BK428
   have HB := Aside0.mk Q_HB
   have HO436 := Aside0.mk (Q_HO436 (hon 1 sqk))
   have HO439 := Aside0.mk (Q_HO439 (hon 1 sqk))
   have HO442 := Aside0.mk (Q_HO442 (hon 1 sqk))
   have HI432 := Aside0.mk (Q_HI432_e1 (hon 1 sqk) hb_)
   have HO447 := Aside0.mk (Q_HO447 (hon 8 sqk))
   obtain ⟨Ao19, co19, eo19⟩ := Kd.R_slice HO447.out
   (first | subst eo19 | (injection eo19 with f1_ f2_ f3_; have f4_ := f1_.symm; have f5_ := f3_.symm; clear f1_ f2_ f3_; subst f4_; subst f5_))
   refine goes_ Try.func98 sqk rfl #[.pointer (some ⟨g432, 0, none⟩), .slice Ao19 y445.length co19] (by rfl) rfl rfl (by first | (simp only [List.map_toArray, List.map_cons, List.map_nil, Act.eval, Array.getD_eq_getD_getElem?, Option.getD_some, e34, e35]; done) | (simp only [List.map_toArray, List.map_cons, List.map_nil, Act.eval, Array.getD_eq_getD_getElem?, Option.getD_some, e34, e35]; rfl)) ?_
   with_reducible refine (spec_l1Int.calls g432 t429 t443 t444 _ _ y445 t448 t449 t450 w _ ?side1 ?side2 ?side3 ?side4 ?side5 A5.out).mono ?_
   (case side1 => repeat (first | (with_reducible first | exact HI432.out | apply IsS125.alloc | apply IsS125.drewN | apply IsS125.drew | apply IsS125.set_1 | apply IsS125.set_2 | refine IsS125.far ?_ NB432_414.out _ | refine IsS125.far ?_ NB432_415.out _ | refine IsS125.far ?_ NB432_428.out _) | exact HI432.out))
   (case side2 => exact z61_0)
   (case side3 => repeat (first | exact (Kd.R_reads' HO447.out).2.2 | (with_reducible refine Kd.C_alloc ?_ _) | (with_reducible refine Kd.C_drewN ?_ _) | (with_reducible refine Kd.C_drew ?_)))
   (case side4 => exact (Kd.R_reads' HO447.out).2.1)
   (case side5 => exact far_slice (IsS125.own_ne HI432.out HO447.out (by decide)))
   rintro e w20 ⟨rfl, hi, hb, hk⟩
   refine ⟨_, rfl, ?_⟩
   replace BK414 := Aside0.mk (KeepBut.blk hk (g' := gb414) (o := .cells #[.int .i64 0, .slice none 0 0, .slice none 0 0, .slice none 0 0] 33 (0, 0)) (sqb BK414.out) NB414_432.out (by simp))
   replace BK415 := Aside0.mk (KeepBut.blk hk (g' := gb415) (o := .cells #[.int .i64 0, .int .i64 0, .int .i64 0, .int .i64 0, .int .i64 0] 45 (0, 0)) (sqb BK415.out) NB415_432.out (by simp))
   replace HO424 := Aside0.mk (Kd.R_mono (Kd.R_keep (IsS125.apart (show IsS125 w _ g432 t429 t443 t444 from by repeat (first | (with_reducible first | exact HI432.out | apply IsS125.alloc | apply IsS125.drewN | apply IsS125.drew | apply IsS125.set_1 | apply IsS125.set_2 | refine IsS125.far ?_ NB432_414.out _ | refine IsS125.far ?_ NB432_415.out _ | refine IsS125.far ?_ NB432_428.out _) | exact HI432.out)) (sqq HO424.out) (by decide)) hk (fun _ h => h.2)) (fun _ h => h.1))
   replace BK428 := Aside0.mk (KeepBut.blk hk (g' := gb428) (o := .cells #[.int .i64 t417, .int .i64 t418, .int .i64 t419, .int .i64 t420, .int .i64 t421] 45 (0, 0)) (sqb BK428.out) NB428_432.out (by simp))
   replace HO436 := Aside0.mk (Kd.R_mono (Kd.R_keep (IsS125.apart (show IsS125 w _ g432 t429 t443 t444 from by repeat (first | (with_reducible first | exact HI432.out | apply IsS125.alloc | apply IsS125.drewN | apply IsS125.drew | apply IsS125.set_1 | apply IsS125.set_2 | refine IsS125.far ?_ NB432_414.out _ | refine IsS125.far ?_ NB432_415.out _ | refine IsS125.far ?_ NB432_428.out _) | exact HI432.out)) (sqq HO436.out) (by decide)) hk (fun _ h => h.2)) (fun _ h => h.1))
   replace HO439 := Aside0.mk (Kd.R_mono (Kd.R_keep (IsS125.apart (show IsS125 w _ g432 t429 t443 t444 from by repeat (first | (with_reducible first | exact HI432.out | apply IsS125.alloc | apply IsS125.drewN | apply IsS125.drew | apply IsS125.set_1 | apply IsS125.set_2 | refine IsS125.far ?_ NB432_414.out _ | refine IsS125.far ?_ NB432_415.out _ | refine IsS125.far ?_ NB432_428.out _) | exact HI432.out)) (sqq HO439.out) (by decide)) hk (fun _ h => h.2)) (fun _ h => h.1))
   replace HO442 := Aside0.mk (Kd.R_mono (Kd.R_keep (IsS125.apart (show IsS125 w _ g432 t429 t443 t444 from by repeat (first | (with_reducible first | exact HI432.out | apply IsS125.alloc | apply IsS125.drewN | apply IsS125.drew | apply IsS125.set_1 | apply IsS125.set_2 | refine IsS125.far ?_ NB432_414.out _ | refine IsS125.far ?_ NB432_415.out _ | refine IsS125.far ?_ NB432_428.out _) | exact HI432.out)) (sqq HO442.out) (by decide)) hk (fun _ h => h.2)) (fun _ h => h.1))
   replace HO447 := Aside0.mk (Kd.R_mono (Kd.R_keep (IsS125.apart (show IsS125 w _ g432 t429 t443 t444 from by repeat (first | (with_reducible first | exact HI432.out | apply IsS125.alloc | apply IsS125.drewN | apply IsS125.drew | apply IsS125.set_1 | apply IsS125.set_2 | refine IsS125.far ?_ NB432_414.out _ | refine IsS125.far ?_ NB432_415.out _ | refine IsS125.far ?_ NB432_428.out _) | exact HI432.out)) (sqq HO447.out) (by decide)) hk (fun _ h => h.2)) (fun _ h => h.1))
   replace HB := Aside0.mk (hb)
   replace HI432 := Aside0.mk (hi)
   (try clear hb)
   (try clear hb2)
   (try clear hk)
   (try clear hi)
   refine hK.out _ _ ⟨v435, v438, v441, .slice Ao19 y445.length co19, m1_, (by rw [ha.out]; exact putSel_upk 3 hb_ rfl rfl rfl), (sqq HO424.out), fun _ => (sqb BK414.out), fun _ => (sqb BK415.out), (sqb BK428.out), fun h0_ => absurd ((hon 1 sqk).symm.trans h0_) (by decide), z61_0, fun _ => (sqq HO436.out), fun _ => (sqq HO439.out), fun _ => (sqq HO442.out), fun _ h1_ => absurd ((up_self b 9).symm.trans h1_) (by decide), fun _ => (sqq HO447.out), fun _ => z61_1, fun h0_ => absurd ((hoff 10 sqk).symm.trans h0_) (by decide), fun h0_ => absurd ((hoff 12 sqk).symm.trans h0_) (by decide), Q_X1_⟩
  refine steps_cons ?_ ?_
  ·rintro b a w' ⟨v435, v438, v441, v446, m1_, ha, Q_HO424, Q_BK414, Q_BK415, Q_BK428, Q_HI432, Q_HB, Q_HO436, Q_HO439, Q_HO442, Q_HI432_e1, Q_HO447, Q_HI432_e9, Q_BK414_e10, Q_BK415_e12, Q_X1_⟩ hb_ hon hoff
   refine ⟨_, rfl, fun K hK => ?_⟩
   have e2 : a.tmps[2]? = some (.pointer (some ⟨gb414, 0, none⟩)) := by rw [ha]; exact (putSel_off rfl).trans rfl
   have e28 : a.tmps[28]? = some (m1_) := by rw [ha]; exact putSel_on (e := (1, 28, m1_)) 0 rfl rfl (hon 1 sqk) rfl
   rw [Q_X1_ (hon 1 sqk)] at e28
   replace ha := Aside0.mk ha
   have HO424 := Aside0.mk Q_HO424
   have BK414 := Aside0.mk (Q_BK414 hb_)
   have BK415 := Aside0.mk (Q_BK415 (hoff 12 sqk))
   have BK428 := Aside0.mk Q_BK428
   have HB := Aside0.mk Q_HB
   have HO436 := Aside0.mk (Q_HO436 (hon 1 sqk))
   have HO439 := Aside0.mk (Q_HO439 (hon 1 sqk))
   have HO442 := Aside0.mk (Q_HO442 (hon 1 sqk))
   have HO447 := Aside0.mk (Q_HO447 (hon 8 sqk))
   have HI432 := Aside0.mk (Q_HI432_e9 (hon 9 sqk))
   obtain ⟨Ao22, co22, eo22⟩ := Kd.R_slice HO436.out
   (first | subst eo22 | (injection eo22 with f1_ f2_ f3_; have f4_ := f1_.symm; have f5_ := f3_.symm; clear f1_ f2_ f3_; subst f4_; subst f5_))
   obtain ⟨Ao24, co24, eo24⟩ := Kd.R_slice HO439.out
   (first | subst eo24 | (injection eo24 with f1_ f2_ f3_; have f4_ := f1_.symm; have f5_ := f3_.symm; clear f1_ f2_ f3_; subst f4_; subst f5_))
   obtain ⟨Ao26, co26, eo26⟩ := Kd.R_slice HO442.out
   (first | subst eo26 | (injection eo26 with f1_ f2_ f3_; have f4_ := f1_.symm; have f5_ := f3_.symm; clear f1_ f2_ f3_; subst f4_; subst f5_))
   obtain ⟨hs21, hfs21⟩ := sd1 BK414.out
   have hns21_1 := NB415_414.out
   have hns21_2 := NB428_414.out
   have hms21_1 := NB414_415.out
   have hms21_2 := NB414_428.out
   have hs23 : w'.cell? ⟨gb414, 1, none⟩ = some (.slice none 0 0) := (blk_cell BK414.out 1).trans rfl
   have hfs23 := blk_frozen BK414.out 1
   have hns23_1 := NB415_414.out
   have hns23_2 := NB428_414.out
   have hms23_1 := NB414_415.out
   have hms23_2 := NB414_428.out
   have hs25 : w'.cell? ⟨gb414, 2, none⟩ = some (.slice none 0 0) := (blk_cell BK414.out 2).trans rfl
   have hfs25 := blk_frozen BK414.out 2
   have hns25_1 := NB415_414.out
   have hns25_2 := NB428_414.out
   have hms25_1 := NB414_415.out
   have hms25_2 := NB414_428.out
   have hs27 : w'.cell? ⟨gb414, 3, none⟩ = some (.slice none 0 0) := (blk_cell BK414.out 3).trans rfl
   have hfs27 := blk_frozen BK414.out 3
   have hns27_1 := NB415_414.out
   have hns27_2 := NB428_414.out
   have hms27_1 := NB414_415.out
   have hms27_2 := NB414_428.out
   refine skip_ (w1 := ?_) (by rfl) rfl ?_ ?_
   rotate_left
   ·go_simp
    rfl
   refine hK.out _ _ ⟨.slice Ao22 t434.length co22, .slice Ao24 t437.length co24, .slice Ao26 t440.length co26, v446, m1_, (by rw [ha.out]; exact putSel_none (v := undef) rfl), (sqR1 HO424 BK414), fun h0_ => absurd ((up_self b 10).symm.trans h0_) (by decide), fun _ => (bp BK415), (bp BK428), fun h0_ => absurd ((hon 1 sqk).symm.trans h0_) (by decide), z61_0, fun _ => (sqR1 HO436 BK414), fun _ => (sqR1 HO439 BK414), fun _ => (sqR1 HO442 BK414), fun _ h1_ => absurd ((hon 9 sqk).symm.trans h1_) (by decide), fun _ => (sqR1 HO447 BK414), fun _ => z61_1, fun _ => (bp BK414), fun h0_ => absurd ((hoff 12 sqk).symm.trans h0_) (by decide), Q_X1_⟩
  refine steps_cons ?_ ?_
  ·rintro b a w' ⟨v435, v438, v441, v446, m1_, ha, Q_HO424, Q_BK414, Q_BK415, Q_BK428, Q_HI432, Q_HB, Q_HO436, Q_HO439, Q_HO442, Q_HI432_e1, Q_HO447, Q_HI432_e9, Q_BK414_e10, Q_BK415_e12, Q_X1_⟩ hb_ hon hoff
   refine ⟨_, rfl, fun K hK => ?_⟩
   have e29 : a.tmps[29]? = some (.int .i64 t416) := by rw [ha]; exact (putSel_off rfl).trans rfl
   replace ha := Aside0.mk ha
   have HO424 := Aside0.mk Q_HO424
   have BK415 := Aside0.mk (Q_BK415 (hoff 12 sqk))
   have BK428 := Aside0.mk Q_BK428
   have HB := Aside0.mk Q_HB
   have HO436 := Aside0.mk (Q_HO436 (hon 1 sqk))
   have HO439 := Aside0.mk (Q_HO439 (hon 1 sqk))
   have HO442 := Aside0.mk (Q_HO442 (hon 1 sqk))
   have HO447 := Aside0.mk (Q_HO447 (hon 8 sqk))
   have HI432 := Aside0.mk (Q_HI432_e9 (hon 9 sqk))
   have BK414 := Aside0.mk (Q_BK414_e10 (hon 10 sqk))
   refine value_ (w1 := w') (v := .int .i64 t416) (by rfl) rfl ?_ ?_
   ·go_simp
    (try simp only [i64_w])
    try rfl
   refine hK.out _ _ ⟨v435, v438, v441, v446, m1_, (by rw [ha.out]; exact putSel_upk 4 hb_ rfl rfl rfl), Q_HO424, fun h0_ => absurd ((hon 10 sqk).symm.trans h0_) (by decide), Q_BK415, Q_BK428, fun h0_ => absurd ((hon 1 sqk).symm.trans h0_) (by decide), Q_HB, Q_HO436, Q_HO439, Q_HO442, fun _ h1_ => absurd ((hon 9 sqk).symm.trans h1_) (by decide), Q_HO447, Q_HI432_e9, Q_BK414_e10, fun h0_ => absurd ((hoff 12 sqk).symm.trans h0_) (by decide), Q_X1_⟩
  refine steps_cons ?_ ?_
  ·rintro b a w' ⟨v435, v438, v441, v446, m1_, ha, Q_HO424, Q_BK414, Q_BK415, Q_BK428, Q_HI432, Q_HB, Q_HO436, Q_HO439, Q_HO442, Q_HI432_e1, Q_HO447, Q_HI432_e9, Q_BK414_e10, Q_BK415_e12, Q_X1_⟩ hb_ hon hoff
   refine ⟨_, rfl, fun K hK => ?_⟩
   have e4 : a.tmps[4]? = some (.pointer (some ⟨gb415, 0, none⟩)) := by rw [ha]; exact (putSel_off rfl).trans rfl
   have e30 : a.tmps[30]? = some (.agg #[.int .i64 t417, .int .i64 t418, .int .i64 t419, .int .i64 t420, .int .i64 t421]) := by rw [ha]; exact putSel_on (e := (3, 30, .agg #[.int .i64 t417, .int .i64 t418, .int .i64 t419, .int .i64 t420, .int .i64 t421])) 1 rfl rfl (hon 3 sqk) rfl
   replace ha := Aside0.mk ha
   have HO424 := Aside0.mk Q_HO424
   have BK415 := Aside0.mk (Q_BK415 hb_)
   have BK428 := Aside0.mk Q_BK428
   have HB := Aside0.mk Q_HB
   have HO436 := Aside0.mk (Q_HO436 (hon 1 sqk))
   have HO439 := Aside0.mk (Q_HO439 (hon 1 sqk))
   have HO442 := Aside0.mk (Q_HO442 (hon 1 sqk))
   have HO447 := Aside0.mk (Q_HO447 (hon 8 sqk))
   have HI432 := Aside0.mk (Q_HI432_e9 (hon 9 sqk))
   have BK414 := Aside0.mk (Q_BK414_e10 (hon 10 sqk))
   obtain ⟨hs28, hfs28⟩ := sd1 BK415.out
   have hns28_0 := NB414_415.out
   have hns28_2 := NB428_415.out
   have hms28_0 := NB415_414.out
   have hms28_2 := NB415_428.out
   have hs29 : w'.cell? ⟨gb415, 1, none⟩ = some (.int .i64 0) := (blk_cell BK415.out 1).trans rfl
   have hfs29 := blk_frozen BK415.out 1
   have hns29_0 := NB414_415.out
   have hns29_2 := NB428_415.out
   have hms29_0 := NB415_414.out
   have hms29_2 := NB415_428.out
   have hs30 : w'.cell? ⟨gb415, 2, none⟩ = some (.int .i64 0) := (blk_cell BK415.out 2).trans rfl
   have hfs30 := blk_frozen BK415.out 2
   have hns30_0 := NB414_415.out
   have hns30_2 := NB428_415.out
   have hms30_0 := NB415_414.out
   have hms30_2 := NB415_428.out
   have hs31 : w'.cell? ⟨gb415, 3, none⟩ = some (.int .i64 0) := (blk_cell BK415.out 3).trans rfl
   have hfs31 := blk_frozen BK415.out 3
   have hns31_0 := NB414_415.out
   have hns31_2 := NB428_415.out
   have hms31_0 := NB415_414.out
   have hms31_2 := NB415_428.out
   have hs32 : w'.cell? ⟨gb415, 4, none⟩ = some (.int .i64 0) := (blk_cell BK415.out 4).trans rfl
   have hfs32 := blk_frozen BK415.out 4
   have hns32_0 := NB414_415.out
   have hns32_2 := NB428_415.out
   have hms32_0 := NB415_414.out
   have hms32_2 := NB415_428.out
   refine skip_ (w1 := ?_) (by rfl) rfl ?_ ?_
   rotate_left
   ·go_simp
    rfl
   refine hK.out _ _ ⟨v435, v438, v441, v446, m1_, (by rw [ha.out]; exact putSel_none (v := undef) rfl), (sqR1 HO424 BK415), fun h0_ => absurd ((hon 10 sqk).symm.trans h0_) (by decide), fun h0_ => absurd ((up_self b 12).symm.trans h0_) (by decide), (bp BK428), fun h0_ => absurd ((hon 1 sqk).symm.trans h0_) (by decide), z61_0, fun _ => (sqR1 HO436 BK415), fun _ => (sqR1 HO439 BK415), fun _ => (sqR1 HO442 BK415), fun _ h1_ => absurd ((hon 9 sqk).symm.trans h1_) (by decide), fun _ => (sqR1 HO447 BK415), fun _ => z61_1, fun _ => (bp BK414), fun _ => (bp BK415), Q_X1_⟩
  refine steps_cons ?_ ?_
  ·rintro b a w' ⟨v435, v438, v441, v446, m1_, ha, Q_HO424, Q_BK414, Q_BK415, Q_BK428, Q_HI432, Q_HB, Q_HO436, Q_HO439, Q_HO442, Q_HI432_e1, Q_HO447, Q_HI432_e9, Q_BK414_e10, Q_BK415_e12, Q_X1_⟩ hb_ hon hoff
   refine ⟨_, rfl, fun K hK => ?_⟩
   have e31 : a.tmps[31]? = some (v423) := by rw [ha]; exact (putSel_off rfl).trans rfl
   replace ha := Aside0.mk ha
   have HO424 := Aside0.mk Q_HO424
   have BK428 := Aside0.mk Q_BK428
   have HB := Aside0.mk Q_HB
   have HO436 := Aside0.mk (Q_HO436 (hon 1 sqk))
   have HO439 := Aside0.mk (Q_HO439 (hon 1 sqk))
   have HO442 := Aside0.mk (Q_HO442 (hon 1 sqk))
   have HO447 := Aside0.mk (Q_HO447 (hon 8 sqk))
   have HI432 := Aside0.mk (Q_HI432_e9 (hon 9 sqk))
   have BK414 := Aside0.mk (Q_BK414_e10 (hon 10 sqk))
   have BK415 := Aside0.mk (Q_BK415_e12 (hon 12 sqk))
   refine value_ (w1 := w') (v := v423) (by rfl) rfl ?_ ?_
   ·go_simp
    (try simp only [i64_w])
    try rfl
   refine hK.out _ _ ⟨v435, v438, v441, v446, m1_, (by rw [ha.out]; exact putSel_upk 5 hb_ rfl rfl rfl), Q_HO424, fun h0_ => absurd ((hon 10 sqk).symm.trans h0_) (by decide), fun h0_ => absurd ((hon 12 sqk).symm.trans h0_) (by decide), Q_BK428, fun h0_ => absurd ((hon 1 sqk).symm.trans h0_) (by decide), Q_HB, Q_HO436, Q_HO439, Q_HO442, fun _ h1_ => absurd ((hon 9 sqk).symm.trans h1_) (by decide), Q_HO447, Q_HI432_e9, Q_BK414_e10, Q_BK415_e12, Q_X1_⟩
  refine steps_cons ?_ ?_
  ·rintro b a w' ⟨v435, v438, v441, v446, m1_, ha, Q_HO424, Q_BK414, Q_BK415, Q_BK428, Q_HI432, Q_HB, Q_HO436, Q_HO439, Q_HO442, Q_HI432_e1, Q_HO447, Q_HI432_e9, Q_BK414_e10, Q_BK415_e12, Q_X1_⟩ hb_ hon hoff
   refine ⟨_, rfl, fun K hK => ?_⟩
   have e32 : a.tmps[32]? = some (.int .i64 t425) := by rw [ha]; exact (putSel_off rfl).trans rfl
   replace ha := Aside0.mk ha
   have HO424 := Aside0.mk Q_HO424
   have BK428 := Aside0.mk Q_BK428
   have HB := Aside0.mk Q_HB
   have HO436 := Aside0.mk (Q_HO436 (hon 1 sqk))
   have HO439 := Aside0.mk (Q_HO439 (hon 1 sqk))
   have HO442 := Aside0.mk (Q_HO442 (hon 1 sqk))
   have HO447 := Aside0.mk (Q_HO447 (hon 8 sqk))
   have HI432 := Aside0.mk (Q_HI432_e9 (hon 9 sqk))
   have BK414 := Aside0.mk (Q_BK414_e10 (hon 10 sqk))
   have BK415 := Aside0.mk (Q_BK415_e12 (hon 12 sqk))
   refine value_ (w1 := w') (v := .int .i64 t425) (by rfl) rfl ?_ ?_
   ·go_simp
    (try simp only [i64_w])
    try rfl
   refine hK.out _ _ ⟨v435, v438, v441, v446, m1_, (by rw [ha.out]; exact putSel_upk 6 hb_ rfl rfl rfl), Q_HO424, fun h0_ => absurd ((hon 10 sqk).symm.trans h0_) (by decide), fun h0_ => absurd ((hon 12 sqk).symm.trans h0_) (by decide), Q_BK428, fun h0_ => absurd ((hon 1 sqk).symm.trans h0_) (by decide), Q_HB, Q_HO436, Q_HO439, Q_HO442, fun _ h1_ => absurd ((hon 9 sqk).symm.trans h1_) (by decide), Q_HO447, Q_HI432_e9, Q_BK414_e10, Q_BK415_e12, Q_X1_⟩
  refine steps_cons ?_ ?_
  ·rintro b a w' ⟨v435, v438, v441, v446, m1_, ha, Q_HO424, Q_BK414, Q_BK415, Q_BK428, Q_HI432, Q_HB, Q_HO436, Q_HO439, Q_HO442, Q_HI432_e1, Q_HO447, Q_HI432_e9, Q_BK414_e10, Q_BK415_e12, Q_X1_⟩ hb_ hon hoff
   refine ⟨_, rfl, fun K hK => ?_⟩
   have e33 : a.tmps[33]? = some (.int .i64 t426) := by rw [ha]; exact (putSel_off rfl).trans rfl
   replace ha := Aside0.mk ha
   have HO424 := Aside0.mk Q_HO424
   have BK428 := Aside0.mk Q_BK428
   have HB := Aside0.mk Q_HB
   have HO436 := Aside0.mk (Q_HO436 (hon 1 sqk))
   have HO439 := Aside0.mk (Q_HO439 (hon 1 sqk))
   have HO442 := Aside0.mk (Q_HO442 (hon 1 sqk))
   have HO447 := Aside0.mk (Q_HO447 (hon 8 sqk))
   have HI432 := Aside0.mk (Q_HI432_e9 (hon 9 sqk))
   have BK414 := Aside0.mk (Q_BK414_e10 (hon 10 sqk))
   have BK415 := Aside0.mk (Q_BK415_e12 (hon 12 sqk))
   refine value_ (w1 := w') (v := .int .i64 t426) (by rfl) rfl ?_ ?_
   ·go_simp
    (try simp only [i64_w])
    try rfl
   refine hK.out _ _ ⟨v435, v438, v441, v446, m1_, (by rw [ha.out]; exact putSel_upk 7 hb_ rfl rfl rfl), Q_HO424, fun h0_ => absurd ((hon 10 sqk).symm.trans h0_) (by decide), fun h0_ => absurd ((hon 12 sqk).symm.trans h0_) (by decide), Q_BK428, fun h0_ => absurd ((hon 1 sqk).symm.trans h0_) (by decide), Q_HB, Q_HO436, Q_HO439, Q_HO442, fun _ h1_ => absurd ((hon 9 sqk).symm.trans h1_) (by decide), Q_HO447, Q_HI432_e9, Q_BK414_e10, Q_BK415_e12, Q_X1_⟩
  refine steps_cons ?_ ?_
  ·rintro b a w' ⟨v435, v438, v441, v446, m1_, ha, Q_HO424, Q_BK414, Q_BK415, Q_BK428, Q_HI432, Q_HB, Q_HO436, Q_HO439, Q_HO442, Q_HI432_e1, Q_HO447, Q_HI432_e9, Q_BK414_e10, Q_BK415_e12, Q_X1_⟩ hb_ hon hoff
   refine ⟨_, rfl, fun K hK => ?_⟩
   have e36 : a.tmps[36]? = some (.int .i64 t448) := by rw [ha]; exact putSel_on (e := (9, 36, .int .i64 t448)) 3 rfl rfl (hon 9 sqk) rfl
   replace ha := Aside0.mk ha
   have HO424 := Aside0.mk Q_HO424
   have BK428 := Aside0.mk Q_BK428
   have HB := Aside0.mk Q_HB
   have HO436 := Aside0.mk (Q_HO436 (hon 1 sqk))
   have HO439 := Aside0.mk (Q_HO439 (hon 1 sqk))
   have HO442 := Aside0.mk (Q_HO442 (hon 1 sqk))
   have HO447 := Aside0.mk (Q_HO447 (hon 8 sqk))
   have HI432 := Aside0.mk (Q_HI432_e9 (hon 9 sqk))
   have BK414 := Aside0.mk (Q_BK414_e10 (hon 10 sqk))
   have BK415 := Aside0.mk (Q_BK415_e12 (hon 12 sqk))
   refine value_ (w1 := w') (v := .int .i64 t448) (by rfl) rfl ?_ ?_
   ·go_simp
    (try simp only [i64_w])
    try rfl
   refine hK.out _ _ ⟨v435, v438, v441, v446, m1_, (by rw [ha.out]; exact putSel_upk 8 hb_ rfl rfl rfl), Q_HO424, fun h0_ => absurd ((hon 10 sqk).symm.trans h0_) (by decide), fun h0_ => absurd ((hon 12 sqk).symm.trans h0_) (by decide), Q_BK428, fun h0_ => absurd ((hon 1 sqk).symm.trans h0_) (by decide), Q_HB, Q_HO436, Q_HO439, Q_HO442, fun _ h1_ => absurd ((hon 9 sqk).symm.trans h1_) (by decide), Q_HO447, Q_HI432_e9, Q_BK414_e10, Q_BK415_e12, Q_X1_⟩
  exact steps_nil
 rintro b a w32 hall ⟨v435, v438, v441, v446, m1_, ha, Q_HO424, Q_BK414, Q_BK415, Q_BK428, Q_HI432, Q_HB, Q_HO436, Q_HO439, Q_HO442, Q_HI432_e1, Q_HO447, Q_HI432_e9, Q_BK414_e10, Q_BK415_e12, Q_X1_⟩
 clear BK414 BK415 BK428 HB HI432 HO424
 have hb1_ := hall 1 sqk
 have hb3_ := hall 3 sqk
 have hb8_ := hall 8 sqk
 have hb9_ := hall 9 sqk
 have hb10_ := hall 10 sqk
 have hb11_ := hall 11 sqk
 have hb12_ := hall 12 sqk
 have hb13_ := hall 13 sqk
 have hb14_ := hall 14 sqk
 have hb15_ := hall 15 sqk
 have hb16_ := hall 16 sqk
 subst ha
 obtain rfl := Q_X1_ hb1_
 simp only [putSel, hb1_, hb3_, hb8_, hb9_, hb10_, hb11_, hb12_, hb13_, hb14_, hb15_, hb16_, if_true, Act.put, List.setIfInBounds_toArray, List.set_cons_zero, List.set_cons_succ]
 have HO424 := Aside0.mk Q_HO424
 clear Q_HO424; clear Q_BK414; clear Q_BK415
 have BK428 := Aside0.mk Q_BK428
 clear Q_BK428; clear Q_HI432
 have HB := Aside0.mk Q_HB
 clear Q_HB
 have HO436 := Aside0.mk (Q_HO436 hb1_)
 clear Q_HO436
 have HO439 := Aside0.mk (Q_HO439 hb1_)
 clear Q_HO439
 have HO442 := Aside0.mk (Q_HO442 hb1_)
 clear Q_HO442; clear Q_HI432_e1
 have HO447 := Aside0.mk (Q_HO447 hb8_)
 clear Q_HO447
 have HI432 := Aside0.mk (Q_HI432_e9 hb9_)
 clear Q_HI432_e9
 have BK414 := Aside0.mk (Q_BK414_e10 hb10_)
 clear Q_BK414_e10
 have BK415 := Aside0.mk (Q_BK415_e12 hb12_)
 clear Q_BK415_e12; clear hall hb1_ hb3_ hb8_ hb9_ hb10_ hb11_ hb12_ hb13_ hb14_ hb15_ hb16_
 try go_wp2
 refine bodyPost_ret (results_list (rs := [.cell 2 33, .tmp 3, .cell 4 45, .tmp 5, .tmp 6, .tmp 7, .tmp 8]) rfl (by simp) (.cell gb414 33 #[.int .i64 t433, v435, v438, v441] (0, 0) _ rfl (sqb BK414.out) Try.underlying33 rfl sqk (.tmp (.cell gb415 45 #[.int .i64 t417, .int .i64 t418, .int .i64 t419, .int .i64 t420, .int .i64 t421] (0, 0) _ rfl (sqb BK415.out) Try.underlying45 rfl sqk (.tmp (.tmp (.tmp (.tmp .nil)))))))) rfl ?_
 exact ⟨_, _, _, _, sqe, sqR0 HO436, sqR0 HO439, sqR0 HO442, sqR0 HO424, by repeat (first | (with_reducible first | exact HB.out | apply below_alloc | apply pw_below_drewN | apply below_drew1 | refine below_set ?_ (IsS125.ge HI432.out) | refine below_set ?_ GE414.out | refine below_set ?_ GE415.out | refine below_set ?_ GE428.out) | exact HB.out)⟩

/-! ### impl_Mod: function 136 -/
def impl_Mod.f (a0 : Int) (a1 : Int) : Option (Int) := (impl_InRange.f a1 1 1000000000000).bind fun t451 => (if t451 = true then (if a1 = 0 then (none) else (some (Int.tmod (wrap64 ((Int.tmod a0 a1) + a1)) a1))) else (some 0))
set_option maxHeartbeats 8000000 in
set_option maxRecDepth 100000 in
theorem impl_Mod.calls (a0 : Int) (a1 : Int) (r : Int) (w : World) (h : impl_Mod.f a0 a1 = some r) :
  Calls Try.prog 136 #[.int .i64 a0, .int .i64 a1] w fun e w' => e = .returned (.int .i64 r) ∧ Drawn0 w w' := by
 have H : ((impl_InRange.f a1 1 1000000000000).bind fun t451 => (if t451 = true then (if a1 = 0 then (none) else (some (Int.tmod (wrap64 ((Int.tmod a0 a1) + a1)) a1))) else (some 0))) = some r := h
 clear h
 obtain ⟨t451, A3, H⟩ := bA H
 by_cases c4 : t451 = true
 ·subst c4
  replace H := iT H
  by_cases c5 : a1 = 0
  ·rw [if_pos c5] at H
   exact absurd H (by simp)
  ·rw [if_neg c5] at H
   have c5b0 : (a1 == 0) = false := beq_eq_false_iff_ne.mpr c5
   have c5b1 : (a1 != 0) = true := bne_iff_ne.mpr c5
   obtain rfl := Option.some.inj H
   go_enter Try.func136, Try.ntmps136
   go_wp2_with (first | ((with_reducible refine gate_callee (f := 70) rfl ?_); refine goesL_ (some 6) rfl rfl Try.func70 sqk rfl #[.int .i64 a1, .int .i64 1, .int .i64 1000000000000] rfl sqm ?_; (with_reducible refine (impl_InRange.calls a1 1 1000000000000 true _ A3.out).mono ?_); rintro e w' ⟨rfl, ⟨nd, rfl⟩⟩; refine ⟨_, rfl, ?_⟩))
   go_ret
   exact ⟨sqr, by repeat (first | exact Drawn0.refl _ | apply Drawn0.step)⟩
 ·replace c4 := Bool.eq_false_iff.mpr c4
  subst c4
  replace H := iF H
  obtain rfl := Option.some.inj H
  go_enter Try.func136, Try.ntmps136
  go_wp2_with (first | ((with_reducible refine gate_callee (f := 70) rfl ?_); refine goesL_ (some 6) rfl rfl Try.func70 sqk rfl #[.int .i64 a1, .int .i64 1, .int .i64 1000000000000] rfl sqm ?_; (with_reducible refine (impl_InRange.calls a1 1 1000000000000 false _ A3.out).mono ?_); rintro e w' ⟨rfl, ⟨nd, rfl⟩⟩; refine ⟨_, rfl, ?_⟩))
  go_ret
  exact ⟨sqr, by repeat (first | exact Drawn0.refl _ | apply Drawn0.step)⟩

/-! ### impl_Hash: function 106 -/
def impl_Hash.l0 : Nat → Int → List Int → Int → Int → Option (Int)
 | 0, _, _, _, _ => none
 | k + 1, x3, x6, x7, x8 => if x8 < x7 then (if 0 ≤ x8 then (if x8 < (x6.length : Int) then ((impl_Mod.f (rd x6 x8) 2147483647).bind fun t453 => (impl_Hash.l0 k (Int.tmod (wrap64 ((wrap64 ((wrap64 (x3 * 1000003)) + t453)) + 13)) 2147483647) x6 x7 (wrap64 (x8 + 1)))) else (none)) else (none)) else (some x3)
def impl_Hash.f (k : Nat) (l0 : List Int) : Option (Int) := impl_Hash.l0 k 11 l0 (l0.length : Int) 0
set_option maxHeartbeats 8000000 in
set_option maxRecDepth 100000 in
theorem impl_Hash.calls (k : Nat) (A0 : Option Addr) (c0 : Nat) (l0 : List Int) (r : Int) (w : World) (hr0 : Kd.C (Kd.int .i64) w A0 l0.length l0) (hc0 : l0.length ≤ c0) (h : impl_Hash.f k l0 = some r) :
  Calls Try.prog 106 #[.slice A0 l0.length c0] w fun e w' => e = .returned (.int .i64 r) ∧ Drawn0 w w' := by
 have HR0 := Aside0.mk hr0
 have HC0 := Aside0.mk hc0
 clear hr0 hc0
 have H : (impl_Hash.l0 k 11 l0 (l0.length : Int) 0) = some r := h
 clear h
 have H' := Aside0.mk H
 clear H
 go_enter Try.func106, Try.ntmps106
 go_wp2
 go_loopg [3, 8] k (fun kq v3 v8 w' => ∃ (x3_1 : Int) (x8_1 : Int), v3 = .int .i64 x3_1 ∧ v8 = .int .i64 x8_1 ∧ Aside0 (impl_Hash.l0 kq x3_1 l0 (l0.length : Int) x8_1 = some r) ∧ Aside0 (kq ≤ k) ∧ Drawn0 w w')
 case atStart => exact ⟨(11), (0), sqr, sqr, H', ⟨Nat.le_refl _⟩, by repeat (first | exact Drawn0.refl _ | apply Drawn0.step)⟩
 case round =>
  clear H'; try clear c1
  obtain ⟨x3_1, x8_1, rfl, rfl, HA, HK1, ⟨m1, rfl⟩⟩ := hrel
  cases gk with
  | zero => exact absurd HA.out (by simp [impl_Hash.l0])
  | succ k1 =>
   have H := HA.out
   clear HA
   simp only [impl_Hash.l0] at H
   by_cases c2 : x8_1 < (l0.length : Int)
   ·rw [if_pos c2] at H
    have c2b0 : decide (x8_1 < (l0.length : Int)) = true := decide_eq_true c2
    clear c2
    by_cases c3 : 0 ≤ x8_1
    ·rw [if_pos c3] at H
     have c3b0 : decide (0 ≤ x8_1) = true := decide_eq_true c3
     clear c3
     by_cases c4 : x8_1 < (l0.length : Int)
     ·rw [if_pos c4] at H
      have c4b0 : decide (x8_1 < (l0.length : Int)) = true := decide_eq_true c4
      clear c4
      obtain ⟨t453, A5, H⟩ := bA H
      have H' := Aside0.mk H
      clear H
      have p452 : 0 ≤ (x8_1 : Int) := of_decide_eq_true sqs
      have q452 : x8_1 < (l0.length : Int) := of_decide_eq_true sqs
      obtain ⟨ad452, e452, hx452_0⟩ := Kd.at_int HR0.out x8_1 p452 q452
      cases e452
      replace p452 := eq_true p452
      replace q452 := eq_true q452
      go_wp2_with (first | ((with_reducible refine gate_callee (f := 136) rfl ?_); refine goesL_ (some 15) rfl rfl Try.func136 sqk rfl #[.int .i64 (rd l0 x8_1), .int .i64 2147483647] rfl sqm ?_; (with_reducible refine (impl_Mod.calls (rd l0 x8_1) 2147483647 t453 _ A5.out).mono ?_); rintro e w' ⟨rfl, ⟨nd, rfl⟩⟩; refine ⟨_, rfl, ?_⟩))
      go_roundg k1
      case measure => have := HK1.out; omega
      case rel => exact ⟨(Int.tmod (wrap64 ((wrap64 ((wrap64 (x3_1 * 1000003)) + t453)) + 13)) 2147483647), (wrap64 (x8_1 + 1)), sqr, sqr, H', ⟨by have := HK1.out; omega⟩, by repeat (first | exact Drawn0.refl _ | apply Drawn0.step)⟩
     ·rw [if_neg c4] at H
      exact absurd H (by simp)
    ·rw [if_neg c3] at H
     exact absurd H (by simp)
   ·rw [if_neg c2] at H
    have c2b0 : decide (x8_1 < (l0.length : Int)) = false := decide_eq_false c2
    clear c2
    obtain rfl := Option.some.inj H
    go_wp2
    go_ret
    exact ⟨sqr, by repeat (first | exact Drawn0.refl _ | apply Drawn0.step)⟩

/-! ### impl_ExtendRegister: function 48 -/
def impl_ExtendRegister.f (k : Nat) (a0 : Int) (a1 : Int) : Option (Int) := (impl_Hash.f k (([a0, a1] : List Int))).bind fun t457 => (some t457)
set_option maxHeartbeats 8000000 in
set_option maxRecDepth 100000 in
theorem impl_ExtendRegister.calls (k : Nat) (a0 : Int) (a1 : Int) (r : Int) (w : World) (h : impl_ExtendRegister.f k a0 a1 = some r) :
  Calls Try.prog 48 #[.int .i64 a0, .int .i64 a1] w fun e w' => e = .returned (.int .i64 r) ∧ Below w.heap.size w w' := by
 have HB := Aside0.mk (Below.refl w.heap.size w)
 have H : ((impl_Hash.f k (([a0, a1] : List Int))).bind fun t457 => (some t457)) = some r := h
 clear h
 obtain ⟨y454, hy454⟩ : ∃ y_ : List Int, y_ = (([a0, a1] : List Int)) := ⟨_, rfl⟩
 replace H : ((impl_Hash.f k y454).bind fun t457 => (some t457)) = some r := by first | (rw [hy454]; with_reducible exact H) | (have H2_ := (Option.bind_some _ _).symm.trans H; rw [hy454]; with_reducible exact H2_) | (have H2_ := (Option.bind_some _ _).symm.trans H; with_reducible exact H2_) | with_reducible exact H | (rw [hy454]; exact H) | exact H
 have Ny454 := Aside0.mk hy454
 clear hy454
 obtain ⟨t457, A3, H⟩ := bA H
 obtain rfl := Option.some.inj H
 go_enter Try.func48, Try.ntmps48
 go_wp2_with (first | ((with_reducible refine gate_dst (N := 7) rfl ?_); refine Kd.R_lit (Kd.int .i64) _ 3 ?hg (N := 7) ?hd (xs := ([a0, a1] : List Int)) (inner := [.int .i64 a0, .int .i64 a1]) (ok := fun _ => True) (okp := fun _ => True) ?hr ?hp (fun _ hk => hk) trivial (Below.refl _ _) (Nat.le_refl _) (by simp) ?_; (case hd => rfl); (case hg => rfl); (case hr => first | (go_simp; done) | (go_simp; rfl)); (case hp => exact (Reps.one (show Kd.M (Kd.int .i64) _ _ _ a0 [.int .i64 a0] from rfl) (Reps.one (show Kd.M (Kd.int .i64) _ _ _ a1 [.int .i64 a1] from rfl) (Reps.none _ _)))); intro v455 w4 ho5 hb hg_ hnew_; clear hg_ hnew_; (first | rw [← Ny454.out] at ho5 | (simp only [Int.reduceToNat] at ho5; rw [← Ny454.out] at ho5)); have HO456 := Aside0.mk (Kd.R_lower ho5 (below_size sqh)); replace HB := Aside0.mk (below_step sqh hb); clear hb ho5; obtain ⟨Ao6, co6, eo6⟩ := Kd.R_slice HO456.out; subst eo6) | ((with_reducible refine gate_callee (f := 106) rfl ?_); refine goesL_ (some 8) rfl rfl Try.func106 sqk rfl #[.slice Ao6 y454.length co6] rfl sqm ?_; (with_reducible refine (impl_Hash.calls k _ _ y454 t457 _ ?side1 ?side2 A3.out).mono ?_); (case side1 => repeat (first | exact (Kd.R_reads' HO456.out).2.2 | (with_reducible refine Kd.C_alloc ?_ _) | (with_reducible refine Kd.C_drewN ?_ _) | (with_reducible refine Kd.C_drew ?_))); (case side2 => exact (Kd.R_reads' HO456.out).2.1); rintro e w' ⟨rfl, ⟨nd, rfl⟩⟩; refine ⟨_, rfl, ?_⟩))
 go_ret
 exact ⟨sqe, sqh⟩

/-! ### impl_RegisterOf: function 45 -/
def impl_RegisterOf.l0 : Nat → Int → List Int → Int → Int → Option (Int)
 | 0, _, _, _, _ => none
 | k + 1, x3, x6, x7, x8 => if x8 < x7 then (if 0 ≤ x8 then (if x8 < (x6.length : Int) then ((impl_ExtendRegister.f k x3 (rd x6 x8)).bind fun t459 => (impl_RegisterOf.l0 k t459 x6 x7 (wrap64 (x8 + 1)))) else (none)) else (none)) else (some x3)
def impl_RegisterOf.f (k : Nat) (l0 : List Int) : Option (Int) := impl_RegisterOf.l0 k 0 l0 (l0.length : Int) 0
set_option maxHeartbeats 8000000 in
set_option maxRecDepth 100000 in
theorem impl_RegisterOf.calls (k : Nat) (A0 : Option Addr) (c0 : Nat) (l0 : List Int) (r : Int) (w : World) (hr0 : Kd.C (Kd.int .i64) w A0 l0.length l0) (hc0 : l0.length ≤ c0) (h : impl_RegisterOf.f k l0 = some r) :
  Calls Try.prog 45 #[.slice A0 l0.length c0] w fun e w' => e = .returned (.int .i64 r) ∧ Below w.heap.size w w' := by
 have HR0 := Aside0.mk hr0
 have HC0 := Aside0.mk hc0
 clear hr0 hc0
 have HB := Aside0.mk (Below.refl w.heap.size w)
 have H : (impl_RegisterOf.l0 k 0 l0 (l0.length : Int) 0) = some r := h
 clear h
 have H' := Aside0.mk H
 clear H
 go_enter Try.func45, Try.ntmps45
 go_wp2
 go_loopg [3, 8] k (fun kq v3 v8 w' => ∃ (x3_1 : Int) (x8_1 : Int), v3 = .int .i64 x3_1 ∧ v8 = .int .i64 x8_1 ∧ Aside0 (impl_RegisterOf.l0 kq x3_1 l0 (l0.length : Int) x8_1 = some r) ∧ Aside0 (kq ≤ k) ∧ Aside0 (Below w.heap.size w w'))
 case atStart => exact ⟨(0), (0), sqr, sqr, H', ⟨Nat.le_refl _⟩, ⟨sqh⟩⟩
 case round =>
  clear H'
  obtain ⟨x3_1, x8_1, rfl, rfl, HA, HK1, HB⟩ := hrel
  cases gk with
  | zero => exact absurd HA.out (by simp [impl_RegisterOf.l0])
  | succ k1 =>
   have H := HA.out
   clear HA
   simp only [impl_RegisterOf.l0] at H
   by_cases c2 : x8_1 < (l0.length : Int)
   ·rw [if_pos c2] at H
    have c2b0 : decide (x8_1 < (l0.length : Int)) = true := decide_eq_true c2
    clear c2
    by_cases c3 : 0 ≤ x8_1
    ·rw [if_pos c3] at H
     have c3b0 : decide (0 ≤ x8_1) = true := decide_eq_true c3
     clear c3
     by_cases c4 : x8_1 < (l0.length : Int)
     ·rw [if_pos c4] at H
      have c4b0 : decide (x8_1 < (l0.length : Int)) = true := decide_eq_true c4
      clear c4
      obtain ⟨t459, A5, H⟩ := bA H
      have H' := Aside0.mk H
      clear H
      have p458 : 0 ≤ (x8_1 : Int) := of_decide_eq_true sqs
      have q458 : x8_1 < (l0.length : Int) := of_decide_eq_true sqs
      obtain ⟨ad458, e458, hx458_0⟩ := Kd.at_int HR0.out x8_1 p458 q458
      cases e458
      replace hx458_0 := cl HB hx458_0
      replace p458 := eq_true p458
      replace q458 := eq_true q458
      go_wp2_with (first | ((with_reducible refine gate_callee (f := 48) rfl ?_); refine goesL_ (some 14) rfl rfl Try.func48 sqk rfl #[.int .i64 x3_1, .int .i64 (rd l0 x8_1)] rfl sqm ?_; (with_reducible refine (impl_ExtendRegister.calls k1 x3_1 (rd l0 x8_1) t459 _ A5.out).mono ?_); rintro e w6 ⟨rfl, hb⟩; refine ⟨_, rfl, ?_⟩; replace HB := Aside0.mk (below_step sqh hb); (try clear hb)))
      go_roundg k1
      case measure => have := HK1.out; omega
      case rel => exact ⟨(t459), (wrap64 (x8_1 + 1)), sqr, sqr, H', ⟨by have := HK1.out; omega⟩, ⟨sqh⟩⟩
     ·rw [if_neg c4] at H
      exact absurd H (by simp)
    ·rw [if_neg c3] at H
     exact absurd H (by simp)
   ·rw [if_neg c2] at H
    have c2b0 : decide (x8_1 < (l0.length : Int)) = false := decide_eq_false c2
    clear c2
    obtain rfl := Option.some.inj H
    go_wp2
    go_ret
    exact ⟨sqe, sqh⟩

/-! ### impl_IsValidKey: function 87 -/
def impl_IsValidKey.f (a0 : Int) : Option (Bool) := (impl_InRange.f a0 1 2147483646).bind fun t460 => (some t460)
set_option maxHeartbeats 8000000 in
set_option maxRecDepth 100000 in
theorem impl_IsValidKey.calls (a0 : Int) (r : Bool) (w : World) (h : impl_IsValidKey.f a0 = some r) :
  Calls Try.prog 87 #[.int .i64 a0] w fun e w' => e = .returned (.bool r) ∧ Drawn0 w w' := by
 have H : ((impl_InRange.f a0 1 2147483646).bind fun t460 => (some t460)) = some r := h
 clear h
 obtain ⟨t460, A2, H⟩ := bA H
 obtain rfl := Option.some.inj H
 go_enter Try.func87, Try.ntmps87
 go_wp2_with (first | ((with_reducible refine gate_callee (f := 70) rfl ?_); refine goesL_ (some 4) rfl rfl Try.func70 sqk rfl #[.int .i64 a0, .int .i64 1, .int .i64 2147483646] rfl sqm ?_; (with_reducible refine (impl_InRange.calls a0 1 2147483646 t460 _ A2.out).mono ?_); rintro e w' ⟨rfl, ⟨nd, rfl⟩⟩; refine ⟨_, rfl, ?_⟩))
 go_ret
 exact ⟨sqr, by repeat (first | exact Drawn0.refl _ | apply Drawn0.step)⟩

/-! ### impl_IsName: function 112 -/
def impl_IsName.f (a0 : Int) : Option (Bool) := (impl_InRange.f a0 10 49).bind fun t461 => (some t461)
set_option maxHeartbeats 8000000 in
set_option maxRecDepth 100000 in
theorem impl_IsName.calls (a0 : Int) (r : Bool) (w : World) (h : impl_IsName.f a0 = some r) :
  Calls Try.prog 112 #[.int .i64 a0] w fun e w' => e = .returned (.bool r) ∧ Drawn0 w w' := by
 have H : ((impl_InRange.f a0 10 49).bind fun t461 => (some t461)) = some r := h
 clear h
 obtain ⟨t461, A2, H⟩ := bA H
 obtain rfl := Option.some.inj H
 go_enter Try.func112, Try.ntmps112
 go_wp2_with (first | ((with_reducible refine gate_callee (f := 70) rfl ?_); refine goesL_ (some 4) rfl rfl Try.func70 sqk rfl #[.int .i64 a0, .int .i64 10, .int .i64 49] rfl sqm ?_; (with_reducible refine (impl_InRange.calls a0 10 49 t461 _ A2.out).mono ?_); rintro e w' ⟨rfl, ⟨nd, rfl⟩⟩; refine ⟨_, rfl, ?_⟩))
 go_ret
 exact ⟨sqr, by repeat (first | exact Drawn0.refl _ | apply Drawn0.step)⟩

end Go.Proofs.Ytlmhemcpkmjkiaa.XFnAppraisal
