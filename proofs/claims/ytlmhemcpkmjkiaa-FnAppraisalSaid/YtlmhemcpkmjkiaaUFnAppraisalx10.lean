/- Written by this session's own program (wip/xprint, which runs over the kit's print): what the functions that the law reaches come to, each proved; and the law's row. Conditions: none. -/
import Derived.Test.YtlmhemcpkmjkiaaUFnAppraisalSq
import Derived.Test.YtlmhemcpkmjkiaaUFnAppraisalx0
import Derived.Test.YtlmhemcpkmjkiaaUFnAppraisalx5
import Derived.Test.YtlmhemcpkmjkiaaUFnAppraisalx6
import Derived.Test.YtlmhemcpkmjkiaaUFnAppraisalx9
namespace Go.Proofs.Ytlmhemcpkmjkiaa.XFnAppraisal
open Go.RowKit Go.Proofs.YtlmhemcpkmjkiaaW.PrintWords Go.Proofs.YtlmhemcpkmjkiaaW.PrintLast Go.Proofs.YtlmhemcpkmjkiaaW.PrintMore Go.Proofs.YtlmhemcpkmjkiaaSq
attribute [local go_sem] max2_int min2_int max_two min_two max_three min_three max_four min_four   -- for this text's walks alone
set_option linter.unusedVariables false
set_option linter.unusedSimpArgs false

/-! ### spec_DrawCheckQuote: function 119 -/
def spec_DrawCheckQuote.j0 : Nat → List Int → Int → List Int → Int → Int → Int → Int → Int → Int → Int → Option (Int × Int × Int × Int × Int × Int × List Int × Int × Int × Int)
 | 0, _, _, _, _, _, _, _, _, _, _ => none
 | k + 1, x9, x10, x372000, x372001, x372002, x393000, x393001, x393002, x393003, x393004 => (spec_l1Below.f x372000 x372001 x372002 6).bind fun bt399 => ((spec_l1Int.f x372000 bt399.2.1 bt399.2.2 (([200, 200, 200, 201] : List Int))).bind fun bt405 => ((spec_l1Int.f x372000 bt405.2.1 bt405.2.2 (([0, 3, 9] : List Int))).bind fun bt411 => (some (bt405.1, x393000, x393001, x393002, x393003, x393004, x9, x10, wrap64 (x393003 + bt399.1), bt411.1))))
def spec_DrawCheckQuote.f (k : Nat) (l0 : List Int) : Option (Int × Int × Int × Int × Int × Int × List Int × Int × Int × Int) := (spec_l1New.f k l0).bind fun bt368 => ((spec_l12Log.f k bt368.1 bt368.2.1 bt368.2.2).bind fun bt372 => ((spec_l1Below.f bt368.1 bt372.2.1 bt372.2.2 9).bind fun bt377 => ((spec_l5Name.f bt368.1 bt377.2.1 bt377.2.2 2).bind fun bt380 => ((spec_l1Below.f bt368.1 bt380.2.1 bt380.2.2 20).bind fun bt383 => ((spec_MakeQuote.f k 200 bt380.1 bt372.1 bt377.1 bt383.1).bind fun bt386 => ((spec_l1Below.f bt368.1 bt383.2.1 bt383.2.2 8).bind fun bt393 => (if bt393.1 = 0 then (if bt372.1.length < 17592186044416 then (spec_DrawCheckQuote.j0 k (bt372.1 ++ [1]) bt377.1 bt368.1 bt393.2.1 bt393.2.2 bt386.1 bt386.2.1 bt386.2.2.1 bt386.2.2.2.1 bt386.2.2.2.2.1) else (none)) else (if bt393.1 = 1 then (spec_DrawCheckQuote.j0 k bt372.1 (wrap64 (bt377.1 + 1)) bt368.1 bt393.2.1 bt393.2.2 bt386.1 bt386.2.1 bt386.2.2.1 bt386.2.2.2.1 bt386.2.2.2.2.1) else (if bt393.1 = 2 then (spec_DrawCheckQuote.j0 k bt372.1 bt377.1 bt368.1 bt393.2.1 bt393.2.2 bt386.1 (wrap64 (bt386.2.1 + 1)) bt386.2.2.1 bt386.2.2.2.1 bt386.2.2.2.2.1) else (if bt393.1 = 3 then (spec_DrawCheckQuote.j0 k bt372.1 bt377.1 bt368.1 bt393.2.1 bt393.2.2 bt386.1 bt386.2.1 bt386.2.2.1 (wrap64 (bt386.2.2.2.1 + 1)) bt386.2.2.2.2.1) else (spec_DrawCheckQuote.j0 k bt372.1 bt377.1 bt368.1 bt393.2.1 bt393.2.2 bt386.1 bt386.2.1 bt386.2.2.1 bt386.2.2.2.1 bt386.2.2.2.2.1)))))))))))
def spec_DrawCheckQuote.T15 : Bool × List (List Nat × List Nat) := (true, [([], []), ([], []), ([0, 1], [0, 1]), ([], []), ([], []), ([], []), ([], []), ([], []), ([], []), ([7, 8, 2], [7, 8]), ([2, 9, 0, 1, 2], [2]), ([3, 10, 0, 1, 2, 3, 10], [3]), ([4, 11, 0, 1, 2, 3, 4, 10, 11], [4]), ([5, 12, 0, 1, 2, 3, 4, 5, 10, 11, 12], [5]), ([6, 13, 0, 1, 2, 3, 4, 5, 6, 10, 11, 12, 13], [6]), ([9, 14, 0, 1, 2, 3, 4, 5, 6, 7, 8, 9, 10, 11, 12, 13, 14], [9])])
def spec_DrawCheckQuote.B15 : List Nat := [0, 0, 3, 0, 0, 0, 0, 0, 0, 391, 903, 1935, 3999, 8127, 16383, 32767]
theorem spec_DrawCheckQuote.tab15 : rtab .any (opsOf Try.f119 15) = spec_DrawCheckQuote.T15 := by kernel_rfl
theorem spec_DrawCheckQuote.bits15 : waitsOk spec_DrawCheckQuote.T15.2 spec_DrawCheckQuote.B15 = true := by kernel_rfl
theorem z119_0 {Q : Prop} (g : Q := by repeat (first | (with_reducible first | exact HB.out | apply below_alloc | apply pw_below_drewN | apply below_drew1 | refine below_set ?_ (IsS125.ge HI371.out) | refine below_set ?_ GE367.out | refine below_set ?_ GE392.out) | exact HB.out)) : Q := g
theorem z119_1 {Q : Prop} (g : Q := by repeat (first | (with_reducible first | exact HB.out | apply below_alloc | apply pw_below_drewN | apply below_drew1 | refine below_set ?_ (IsS125.ge HI371.out) | refine below_set ?_ GE367.out) | exact HB.out)) : Q := g
theorem z119_2 {Q : Prop} (g : Q := by repeat (first | (with_reducible first | exact HI371.out | apply IsS125.alloc | apply IsS125.drewN | apply IsS125.drew | apply IsS125.set_1 | apply IsS125.set_2 | refine IsS125.far ?_ NB371_367.out _ | refine IsS125.far ?_ NB371_392.out _) | exact HI371.out)) : Q := g
theorem z119_3 {Q : Prop} (g : Q := by (with_reducible repeat (first | apply Kd.R_alloc | apply Kd.R_drewN | apply Kd.R_drew)); exact (Q_HO410 h0_)) : Q := g
theorem z119_4 {Q : Prop} (g : Q := by repeat (first | (with_reducible first | exact HI371.out | apply IsS125.alloc | apply IsS125.drewN | apply IsS125.drew | apply IsS125.set_1 | apply IsS125.set_2 | refine IsS125.far ?_ NB371_367.out _) | exact HI371.out)) : Q := g
set_option maxHeartbeats 8000000 in
set_option maxRecDepth 100000 in
theorem spec_DrawCheckQuote.calls (k : Nat) (A0 : Option Addr) (c0 : Nat) (l0 : List Int) (r1 : Int) (r2 : Int) (r3 : Int) (r4 : Int) (r5 : Int) (r6 : Int) (r7 : List Int) (r8 : Int) (r9 : Int) (r10 : Int) (w : World) (hr0 : Kd.C (Kd.int .u8) w A0 l0.length l0) (hc0 : l0.length ≤ c0) (h : spec_DrawCheckQuote.f k l0 = some (r1, r2, r3, r4, r5, r6, r7, r8, r9, r10)) :
  Calls Try.prog 119 #[.slice A0 l0.length c0] w fun e w' => ∃ v6_ : Value, e = .returned (.tuple #[.int .i64 r1, .agg #[.int .i64 r2, .int .i64 r3, .int .i64 r4, .int .i64 r5, .int .i64 r6], v6_, .int .i64 r8, .int .i64 r9, .int .i64 r10]) ∧ Kd.R (Kd.int .i64) 3 w' w.heap.size (fun _ => True) v6_ r7 ∧ Below w.heap.size w w' := by
 have hu45 := Try.underlying45
 have HR0 := Aside0.mk hr0
 have HC0 := Aside0.mk hc0
 clear hr0 hc0
 have HB := Aside0.mk (Below.refl w.heap.size w)
 have H : ((spec_l1New.f k l0).bind fun bt368 => ((spec_l12Log.f k bt368.1 bt368.2.1 bt368.2.2).bind fun bt372 => ((spec_l1Below.f bt368.1 bt372.2.1 bt372.2.2 9).bind fun bt377 => ((spec_l5Name.f bt368.1 bt377.2.1 bt377.2.2 2).bind fun bt380 => ((spec_l1Below.f bt368.1 bt380.2.1 bt380.2.2 20).bind fun bt383 => ((spec_MakeQuote.f k 200 bt380.1 bt372.1 bt377.1 bt383.1).bind fun bt386 => ((spec_l1Below.f bt368.1 bt383.2.1 bt383.2.2 8).bind fun bt393 => (if bt393.1 = 0 then (if bt372.1.length < 17592186044416 then (spec_DrawCheckQuote.j0 k (bt372.1 ++ [1]) bt377.1 bt368.1 bt393.2.1 bt393.2.2 bt386.1 bt386.2.1 bt386.2.2.1 bt386.2.2.2.1 bt386.2.2.2.2.1) else (none)) else (if bt393.1 = 1 then (spec_DrawCheckQuote.j0 k bt372.1 (wrap64 (bt377.1 + 1)) bt368.1 bt393.2.1 bt393.2.2 bt386.1 bt386.2.1 bt386.2.2.1 bt386.2.2.2.1 bt386.2.2.2.2.1) else (if bt393.1 = 2 then (spec_DrawCheckQuote.j0 k bt372.1 bt377.1 bt368.1 bt393.2.1 bt393.2.2 bt386.1 (wrap64 (bt386.2.1 + 1)) bt386.2.2.1 bt386.2.2.2.1 bt386.2.2.2.2.1) else (if bt393.1 = 3 then (spec_DrawCheckQuote.j0 k bt372.1 bt377.1 bt368.1 bt393.2.1 bt393.2.2 bt386.1 bt386.2.1 bt386.2.2.1 (wrap64 (bt386.2.2.2.1 + 1)) bt386.2.2.2.2.1) else (spec_DrawCheckQuote.j0 k bt372.1 bt377.1 bt368.1 bt393.2.1 bt393.2.2 bt386.1 bt386.2.1 bt386.2.2.1 bt386.2.2.2.1 bt386.2.2.2.2.1)))))))))))) = some (r1, r2, r3, r4, r5, r6, r7, r8, r9, r10) := h
 clear h
 obtain ⟨⟨t368, t369, t370⟩, A2, H⟩ := bA H
 dsimp only at H
 obtain ⟨⟨t372, t375, t376⟩, A3, H⟩ := bA H
 dsimp only at H
 obtain ⟨⟨t377, t378, t379⟩, A4, H⟩ := bA H
 dsimp only at H
 obtain ⟨⟨t380, t381, t382⟩, A5, H⟩ := bA H
 dsimp only at H
 obtain ⟨⟨t383, t384, t385⟩, A6, H⟩ := bA H
 dsimp only at H
 obtain ⟨⟨t386, t387, t388, t389, t390, t391⟩, A7, H⟩ := bA H
 dsimp only at H
 obtain ⟨⟨t393, t394, t395⟩, A8, H⟩ := bA H
 dsimp only at H
 have HC9 := Aside0.mk H
 clear H
 go_enter Try.func119, Try.ntmps119
 go_upto_block 0 with (first | ((with_reducible refine gate_dst (N := 3) rfl ?_); refine bx (N := 3) (cs := #[.int .i64 0, .int .i64 0, .int .i64 0, .int .i64 0, .int .i64 0]) (t := 45) ?_; intro gb367 hg w10 hbox hb; have BK367 := Aside0.mk (hbox); have GW367 := Aside0.mk ((by rw [hg]; exact (below_size sqh) : w.heap.size ≤ gb367)); have GE367 := Aside0.mk ((by rw [hg]; exact (below_size sqh) : w.heap.size ≤ gb367)); replace HB := Aside0.mk (below_step sqh hb); clear hb hbox hg) | ((with_reducible refine gate_callee (f := 97) rfl ?_); refine goesL_ (some 15) rfl rfl Try.func97 sqk rfl #[.slice A0 l0.length c0] rfl sqm ?_; (with_reducible refine (spec_l1New.calls k _ _ l0 t368 t369 t370 w _ ?side1 ?side2 ?side3 A2.out).mono ?_); (case side1 => exact sqh); (case side2 => exact HR0.out); (case side3 => exact HC0.out); rintro e w11 ⟨g371, rfl, hi, hb, hb2⟩; refine ⟨_, rfl, ?_⟩; replace HB := Aside0.mk (hb); have HI371 := Aside0.mk (hi); have NB371_367 := Aside0.mk (IsS125.ne_blk hi (blk_below (bo BK367) hb2) (by decide)); have NB367_371 := Aside0.mk (Ne.symm (IsS125.ne_blk hi (blk_below (bo BK367) hb2) (by decide))); replace BK367 := Aside0.mk (blk_below (bo BK367) hb2); (try clear hb); (try clear hb2); (try clear hi)) | ((with_reducible refine gate_callee (f := 102) rfl ?_); refine goesL_ (some 17) rfl rfl Try.func102 sqk rfl #[.pointer (some ⟨g371, 0, none⟩)] rfl sqm ?_; (with_reducible refine (spec_l12Log.calls k g371 t368 t369 t370 t372 t375 t376 w _ ?side1 ?side2 A3.out).mono ?_); (case side1 => repeat (first | (with_reducible first | exact HI371.out | apply IsS125.alloc | apply IsS125.drewN | apply IsS125.drew | apply IsS125.set_1 | apply IsS125.set_2 | refine IsS125.far ?_ NB371_367.out _) | exact HI371.out)); (case side2 => exact z119_1); rintro e w12 ⟨v373, rfl, ho0, hi, hb, hk⟩; refine ⟨_, rfl, ?_⟩; replace BK367 := Aside0.mk (KeepBut.blk hk (g' := gb367) (o := .cells #[.int .i64 0, .int .i64 0, .int .i64 0, .int .i64 0, .int .i64 0] 45 (0, 0)) (sqb BK367.out) NB367_371.out (by simp)); have HO374 := Aside0.mk (Kd.R_mono (ok' := fun _ => True) (Kd.R_lower ho0 (below_size z119_1)) (fun _ _ => trivial)); replace HB := Aside0.mk (hb); replace HI371 := Aside0.mk (hi); (try clear hb); (try clear hk); (try clear hi); (try clear ho0)) | ((with_reducible refine gate_callee (f := 103) rfl ?_); refine goesL_ (some 19) rfl rfl Try.func103 sqk rfl #[.pointer (some ⟨g371, 0, none⟩), .int .i64 9] rfl sqm ?_; (with_reducible refine (spec_l1Below.calls g371 t368 t375 t376 9 t377 t378 t379 w _ ?side1 ?side2 A4.out).mono ?_); (case side1 => repeat (first | (with_reducible first | exact HI371.out | apply IsS125.alloc | apply IsS125.drewN | apply IsS125.drew | apply IsS125.set_1 | apply IsS125.set_2 | refine IsS125.far ?_ NB371_367.out _) | exact HI371.out)); (case side2 => exact z119_1); rintro e w13 ⟨rfl, hi, hb, hk⟩; refine ⟨_, rfl, ?_⟩; replace BK367 := Aside0.mk (KeepBut.blk hk (g' := gb367) (o := .cells #[.int .i64 0, .int .i64 0, .int .i64 0, .int .i64 0, .int .i64 0] 45 (0, 0)) (sqb BK367.out) NB367_371.out (by simp)); replace HO374 := Aside0.mk (Kd.R_mono (Kd.R_keep (IsS125.apart (show IsS125 w _ g371 t368 t375 t376 from by repeat (first | (with_reducible first | exact HI371.out | apply IsS125.alloc | apply IsS125.drewN | apply IsS125.drew | apply IsS125.set_1 | apply IsS125.set_2 | refine IsS125.far ?_ NB371_367.out _) | exact HI371.out)) (sqq HO374.out) (by decide)) hk (fun _ h => h.2)) (fun _ h => h.1)); replace HB := Aside0.mk (hb); replace HI371 := Aside0.mk (hi); (try clear hb); (try clear hk); (try clear hi)) | ((with_reducible refine gate_callee (f := 99) rfl ?_); refine goesL_ (some 22) rfl rfl Try.func99 sqk rfl #[.pointer (some ⟨g371, 0, none⟩), .int .i64 2] rfl sqm ?_; (with_reducible refine (spec_l5Name.calls g371 t368 t378 t379 2 t380 t381 t382 w _ ?side1 ?side2 A5.out).mono ?_); (case side1 => repeat (first | (with_reducible first | exact HI371.out | apply IsS125.alloc | apply IsS125.drewN | apply IsS125.drew | apply IsS125.set_1 | apply IsS125.set_2 | refine IsS125.far ?_ NB371_367.out _) | exact HI371.out)); (case side2 => exact z119_1); rintro e w14 ⟨rfl, hi, hb, hk⟩; refine ⟨_, rfl, ?_⟩; replace BK367 := Aside0.mk (KeepBut.blk hk (g' := gb367) (o := .cells #[.int .i64 0, .int .i64 0, .int .i64 0, .int .i64 0, .int .i64 0] 45 (0, 0)) (sqb BK367.out) NB367_371.out (by simp)); replace HO374 := Aside0.mk (Kd.R_mono (Kd.R_keep (IsS125.apart (show IsS125 w _ g371 t368 t378 t379 from by repeat (first | (with_reducible first | exact HI371.out | apply IsS125.alloc | apply IsS125.drewN | apply IsS125.drew | apply IsS125.set_1 | apply IsS125.set_2 | refine IsS125.far ?_ NB371_367.out _) | exact HI371.out)) (sqq HO374.out) (by decide)) hk (fun _ h => h.2)) (fun _ h => h.1)); replace HB := Aside0.mk (hb); replace HI371 := Aside0.mk (hi); (try clear hb); (try clear hk); (try clear hi)) | ((with_reducible refine gate_callee (f := 103) rfl ?_); refine goesL_ (some 26) rfl rfl Try.func103 sqk rfl #[.pointer (some ⟨g371, 0, none⟩), .int .i64 20] rfl sqm ?_; (with_reducible refine (spec_l1Below.calls g371 t368 t381 t382 20 t383 t384 t385 w _ ?side1 ?side2 A6.out).mono ?_); (case side1 => repeat (first | (with_reducible first | exact HI371.out | apply IsS125.alloc | apply IsS125.drewN | apply IsS125.drew | apply IsS125.set_1 | apply IsS125.set_2 | refine IsS125.far ?_ NB371_367.out _) | exact HI371.out)); (case side2 => exact z119_1); rintro e w15 ⟨rfl, hi, hb, hk⟩; refine ⟨_, rfl, ?_⟩; replace BK367 := Aside0.mk (KeepBut.blk hk (g' := gb367) (o := .cells #[.int .i64 0, .int .i64 0, .int .i64 0, .int .i64 0, .int .i64 0] 45 (0, 0)) (sqb BK367.out) NB367_371.out (by simp)); replace HO374 := Aside0.mk (Kd.R_mono (Kd.R_keep (IsS125.apart (show IsS125 w _ g371 t368 t381 t382 from by repeat (first | (with_reducible first | exact HI371.out | apply IsS125.alloc | apply IsS125.drewN | apply IsS125.drew | apply IsS125.set_1 | apply IsS125.set_2 | refine IsS125.far ?_ NB371_367.out _) | exact HI371.out)) (sqq HO374.out) (by decide)) hk (fun _ h => h.2)) (fun _ h => h.1)); replace HB := Aside0.mk (hb); replace HI371 := Aside0.mk (hi); (try clear hb); (try clear hk); (try clear hi); obtain ⟨Ao16, co16, eo16⟩ := Kd.R_slice HO374.out; subst eo16) | ((with_reducible refine gate_callee (f := 33) rfl ?_); refine goesL_ (some 27) rfl rfl Try.func33 sqk rfl #[.int .i64 200, .int .i64 t380, .slice Ao16 t372.length co16, .int .i64 t377, .int .i64 t383] rfl sqm ?_; (with_reducible refine (spec_MakeQuote.calls k 200 t380 _ _ t372 t377 t383 t386 t387 t388 t389 t390 t391 _ ?side1 ?side2 A7.out).mono ?_); (case side1 => repeat (first | exact (Kd.R_reads' HO374.out).2.2 | (with_reducible refine Kd.C_alloc ?_ _) | (with_reducible refine Kd.C_drewN ?_ _) | (with_reducible refine Kd.C_drew ?_))); (case side2 => exact (Kd.R_reads' HO374.out).2.1); rintro e w17 ⟨rfl, hb⟩; refine ⟨_, rfl, ?_⟩; replace HO374 := Aside0.mk (Kd.R_below (sqq HO374.out) hb); replace BK367 := Aside0.mk (blk_below (bo BK367) hb); replace HB := Aside0.mk (below_step z119_1 hb); replace HI371 := Aside0.mk (IsS125.below z119_4 hb); (try clear hb)) | ((with_reducible refine gate_dst (N := 11) rfl ?_); refine bx (N := 11) (cs := #[.int .i64 0, .int .i64 0, .int .i64 0, .int .i64 0, .int .i64 0]) (t := 45) ?_; intro gb392 hg w18 hbox hb; replace HO374 := Aside0.mk (Kd.R_below (sqq HO374.out) hb); have BK392 := Aside0.mk (hbox); have GW392 := Aside0.mk ((by rw [hg]; exact (below_size z119_1) : w.heap.size ≤ gb392)); have GE392 := Aside0.mk ((by rw [hg]; exact (below_size z119_1) : w.heap.size ≤ gb392)); replace HB := Aside0.mk (below_step z119_1 hb); have NB367_392 := Aside0.mk ((by rw [hg]; exact Nat.ne_of_lt (blk_lt (bo BK367)) : gb367 ≠ gb392)); have NB392_367 := Aside0.mk ((by rw [hg]; exact Nat.ne_of_gt (blk_lt (bo BK367)) : gb392 ≠ gb367)); replace BK367 := Aside0.mk (blk_below (bo BK367) hb); have NB371_392 := Aside0.mk ((by rw [hg]; exact Nat.ne_of_lt (IsS125.lt (show IsS125 w _ g371 t368 t384 t385 from by repeat (first | (with_reducible first | exact HI371.out | apply IsS125.alloc | apply IsS125.drewN | apply IsS125.drew | apply IsS125.set_1 | apply IsS125.set_2 | refine IsS125.far ?_ NB371_367.out _) | exact HI371.out))) : g371 ≠ gb392)); have NB392_371 := Aside0.mk ((by rw [hg]; exact Nat.ne_of_gt (IsS125.lt (show IsS125 w _ g371 t368 t384 t385 from by repeat (first | (with_reducible first | exact HI371.out | apply IsS125.alloc | apply IsS125.drewN | apply IsS125.drew | apply IsS125.set_1 | apply IsS125.set_2 | refine IsS125.far ?_ NB371_367.out _) | exact HI371.out))) : gb392 ≠ g371)); replace HI371 := Aside0.mk (IsS125.below z119_4 hb); clear hb hbox hg; have hnb19 := NB392_367.out; have hnc19 := NB367_392.out; have hnb20 := NB392_371.out; have hnc20 := NB371_392.out; obtain ⟨hcz21_0, hcz21_1, hcz21_2, hcz21_3, hcz21_4, hfz21_0, hfz21_1, hfz21_2, hfz21_3, hfz21_4⟩ := sd5 BK392.out) | ((with_reducible refine gate_callee (f := 103) rfl ?_); refine goesL_ (some 31) rfl rfl Try.func103 sqk rfl #[.pointer (some ⟨g371, 0, none⟩), .int .i64 8] rfl sqm ?_; (with_reducible refine (spec_l1Below.calls g371 t368 t384 t385 8 t393 t394 t395 w _ ?side1 ?side2 A8.out).mono ?_); (case side1 => repeat (first | (with_reducible first | exact HI371.out | apply IsS125.alloc | apply IsS125.drewN | apply IsS125.drew | apply IsS125.set_1 | apply IsS125.set_2 | refine IsS125.far ?_ NB371_367.out _ | refine IsS125.far ?_ NB371_392.out _) | exact HI371.out)); (case side2 => exact z119_0); rintro e w22 ⟨rfl, hi, hb, hk⟩; refine ⟨_, rfl, ?_⟩; replace BK367 := Aside0.mk (KeepBut.blk hk (g' := gb367) (o := .cells #[.int .i64 0, .int .i64 0, .int .i64 0, .int .i64 0, .int .i64 0] 45 (0, 0)) (bp BK367) NB367_371.out (by simp)); replace HO374 := Aside0.mk (Kd.R_mono (Kd.R_keep (IsS125.apart (show IsS125 w _ g371 t368 t384 t385 from by repeat (first | (with_reducible first | exact HI371.out | apply IsS125.alloc | apply IsS125.drewN | apply IsS125.drew | apply IsS125.set_1 | apply IsS125.set_2 | refine IsS125.far ?_ NB371_367.out _ | refine IsS125.far ?_ NB371_392.out _) | exact HI371.out)) (sqR1 HO374 BK392) (by decide)) hk (fun _ h => h.2)) (fun _ h => h.1)); replace BK392 := Aside0.mk (KeepBut.blk hk (g' := gb392) (o := .cells #[.int .i64 t386, .int .i64 t387, .int .i64 t388, .int .i64 t389, .int .i64 t390] 45 (0, 0)) (bp BK392) NB392_371.out (by simp)); replace HB := Aside0.mk (hb); replace HI371 := Aside0.mk (hi); (try clear hb); (try clear hk); (try clear hi)))
 (try simp only [Act.put, List.setIfInBounds_toArray, List.set_cons_zero, List.set_cons_succ])
 go_cut [9, 10] (fun v9 v10 wc => ∃ (kq : Nat) (x9_8 : List Int) (x10_8 : Int) (x393001_8 : Int) (x393003_8 : Int), v10 = .int .i64 x10_8 ∧ Aside0 (spec_DrawCheckQuote.j0 kq x9_8 x10_8 t368 t394 t395 t386 x393001_8 t388 x393003_8 t390 = some (r1, r2, r3, r4, r5, r6, r7, r8, r9, r10)) ∧ Aside0 (kq ≤ k) ∧ Aside0 (Kd.R (Kd.int .i64) 3 wc w.heap.size (fun _ => True) v9 x9_8) ∧ Aside0 (wc.heap[gb367]? = some (.cells #[.int .i64 0, .int .i64 0, .int .i64 0, .int .i64 0, .int .i64 0] 45 (0, 0))) ∧ Aside0 (wc.heap[gb392]? = some (.cells #[.int .i64 t386, .int .i64 x393001_8, .int .i64 t388, .int .i64 x393003_8, .int .i64 t390] 45 (0, 0))) ∧ Aside0 (IsS125 w wc g371 t368 t394 t395) ∧ Aside0 (Below w.heap.size w wc))
 case first =>
  have H := HC9.out
  clear HC9
  by_cases c23 : t393 = 0
  ·rw [if_pos c23] at H
   have c23b0 : (t393 == 0) = true := beq_iff_eq.mpr c23
   have c23b1 : (t393 != 0) = false := bne_eq_false_iff_eq.mpr c23
   clear c23
   (first | rw [c23b0] | (simp only [i64_w, i32_w]; rw [c23b0]) | skip)
   by_cases c24 : t372.length < 17592186044416
   ·rw [if_pos c24] at H
    have LMc24 := Aside0.mk c24
    clear c24
    obtain ⟨y396, hy396⟩ : ∃ y_ : List Int, y_ = (t372 ++ [1]) := ⟨_, rfl⟩
    replace H : (spec_DrawCheckQuote.j0 k y396 t377 t368 t394 t395 t386 t387 t388 t389 t390) = some (r1, r2, r3, r4, r5, r6, r7, r8, r9, r10) := by first | (rw [hy396]; with_reducible exact H) | (have H2_ := (Option.bind_some _ _).symm.trans H; rw [hy396]; with_reducible exact H2_) | (have H2_ := (Option.bind_some _ _).symm.trans H; with_reducible exact H2_) | with_reducible exact H | (rw [hy396]; exact H) | exact H
    have Ny396 := Aside0.mk hy396
    clear hy396
    have H' := Aside0.mk H
    clear H
    go_wp2_with (first | ((with_reducible refine gate_builtin (b := .append) (xs := #[.tmp 34, .tmp 35]) rfl ?_); at_builtin; refine Kd.R_append (Kd.int .i64) (w0 := w) w.heap.size rfl (.tmp 34) (.tmp 35) 28 3 (.int .i64 0) 8 rfl Try.underlying28 info3 rfl (by decide) (by omega) (.slice Ao16 t372.length co16) t372 1 [.int .i64 1] (fun _ => True) (fun _ => False) rfl rfl ?aP (fun _ hk => hk.elim) ?aF ?aO ?aB ?aS ?aL ?_; (case aP => exact rfl); (case aB => exact z119_0); (case aF => exact (fun _ _ => trivial)); (case aO => exact (sqq HO374.out)); (case aS => exact (below_size z119_0)); (case aL => have := LMc24.out; omega); intro v397 w25 ho hb hg hat; rw [← Ny396.out] at ho; replace BK367 := Aside0.mk (blk_grown (bo BK367) hg (Kd.R_ne HO374.out BK367.out (by decide))); replace HI371 := Aside0.mk (IsS125.grown z119_2 hg (IsS125.own_ne HI371.out HO374.out (by decide))); replace BK392 := Aside0.mk (blk_grown (bo BK392) hg (Kd.R_ne HO374.out BK392.out (by decide))); replace HB := Aside0.mk (hb); have HO398 := Aside0.mk (ho); clear HO374; clear ho hb hg hat))
    go_meet
    case rel => exact ⟨_, (y396), (t377), (t387), (t389), sqr, H', ⟨sqo⟩, ⟨by (with_reducible repeat (first | apply Kd.R_alloc | apply Kd.R_drewN | apply Kd.R_drew)); exact HO398.out⟩, ⟨sqb BK367.out⟩, ⟨sqb BK392.out⟩, ⟨by repeat (first | (with_reducible first | exact HI371.out | apply IsS125.alloc | apply IsS125.drewN | apply IsS125.drew | apply IsS125.set_1 | apply IsS125.set_2 | refine IsS125.far ?_ NB371_367.out _ | refine IsS125.far ?_ NB371_392.out _) | exact HI371.out)⟩, ⟨by repeat (first | (with_reducible first | exact HB.out | apply below_alloc | apply pw_below_drewN | apply below_drew1 | refine below_set ?_ (IsS125.ge HI371.out) | refine below_set ?_ GE367.out | refine below_set ?_ GE392.out) | exact HB.out)⟩⟩
   ·rw [if_neg c24] at H
    exact absurd H (by simp)
  ·rw [if_neg c23] at H
   have c23b0 : (t393 == 0) = false := beq_eq_false_iff_ne.mpr c23
   have c23b1 : (t393 != 0) = true := bne_iff_ne.mpr c23
   (first | rw [c23b0] | (simp only [i64_w, i32_w]; rw [c23b0]) | skip)
   by_cases c26 : t393 = 1
   ·rw [if_pos c26] at H
    have c26b0 : (t393 == 1) = true := beq_iff_eq.mpr c26
    have c26b1 : (t393 != 1) = false := bne_eq_false_iff_eq.mpr c26
    clear c26
    have H' := Aside0.mk H
    clear H
    go_wp2
    go_meet
    case rel => exact ⟨_, (t372), (wrap64 (t377 + 1)), (t387), (t389), sqr, H', ⟨sqo⟩, ⟨by (with_reducible repeat (first | apply Kd.R_alloc | apply Kd.R_drewN | apply Kd.R_drew)); exact HO374.out⟩, ⟨sqb BK367.out⟩, ⟨sqb BK392.out⟩, ⟨by repeat (first | (with_reducible first | exact HI371.out | apply IsS125.alloc | apply IsS125.drewN | apply IsS125.drew | apply IsS125.set_1 | apply IsS125.set_2 | refine IsS125.far ?_ NB371_367.out _ | refine IsS125.far ?_ NB371_392.out _) | exact HI371.out)⟩, ⟨by repeat (first | (with_reducible first | exact HB.out | apply below_alloc | apply pw_below_drewN | apply below_drew1 | refine below_set ?_ (IsS125.ge HI371.out) | refine below_set ?_ GE367.out | refine below_set ?_ GE392.out) | exact HB.out)⟩⟩
   ·rw [if_neg c26] at H
    have c26b0 : (t393 == 1) = false := beq_eq_false_iff_ne.mpr c26
    have c26b1 : (t393 != 1) = true := bne_iff_ne.mpr c26
    by_cases c27 : t393 = 2
    ·rw [if_pos c27] at H
     have c27b0 : (t393 == 2) = true := beq_iff_eq.mpr c27
     have c27b1 : (t393 != 2) = false := bne_eq_false_iff_eq.mpr c27
     clear c27
     have H' := Aside0.mk H
     clear H
     have hnb28 := NB392_367.out
     have hnc28 := NB367_392.out
     have hnb29 := NB392_371.out
     have hnc29 := NB371_392.out
     obtain ⟨hcz30_0, hcz30_1, hcz30_2, hcz30_3, hcz30_4, hfz30_0, hfz30_1, hfz30_2, hfz30_3, hfz30_4⟩ := sd5 BK392.out
     go_wp2
     go_meet
     case rel => exact ⟨_, (t372), (t377), (wrap64 (t387 + 1)), (t389), sqr, H', ⟨sqo⟩, ⟨sqR1 HO374 BK392⟩, ⟨bp BK367⟩, ⟨bp BK392⟩, ⟨by repeat (first | (with_reducible first | exact HI371.out | apply IsS125.alloc | apply IsS125.drewN | apply IsS125.drew | apply IsS125.set_1 | apply IsS125.set_2 | refine IsS125.far ?_ NB371_367.out _ | refine IsS125.far ?_ NB371_392.out _) | exact HI371.out)⟩, ⟨by repeat (first | (with_reducible first | exact HB.out | apply below_alloc | apply pw_below_drewN | apply below_drew1 | refine below_set ?_ (IsS125.ge HI371.out) | refine below_set ?_ GE367.out | refine below_set ?_ GE392.out) | exact HB.out)⟩⟩
    ·rw [if_neg c27] at H
     have c27b0 : (t393 == 2) = false := beq_eq_false_iff_ne.mpr c27
     have c27b1 : (t393 != 2) = true := bne_iff_ne.mpr c27
     by_cases c31 : t393 = 3
     ·rw [if_pos c31] at H
      have c31b0 : (t393 == 3) = true := beq_iff_eq.mpr c31
      have c31b1 : (t393 != 3) = false := bne_eq_false_iff_eq.mpr c31
      clear c31
      have H' := Aside0.mk H
      clear H
      have hnb32 := NB392_367.out
      have hnc32 := NB367_392.out
      have hnb33 := NB392_371.out
      have hnc33 := NB371_392.out
      obtain ⟨hcz34_0, hcz34_1, hcz34_2, hcz34_3, hcz34_4, hfz34_0, hfz34_1, hfz34_2, hfz34_3, hfz34_4⟩ := sd5 BK392.out
      go_wp2
      go_meet
      case rel => exact ⟨_, (t372), (t377), (t387), (wrap64 (t389 + 1)), sqr, H', ⟨sqo⟩, ⟨sqR1 HO374 BK392⟩, ⟨bp BK367⟩, ⟨bp BK392⟩, ⟨by repeat (first | (with_reducible first | exact HI371.out | apply IsS125.alloc | apply IsS125.drewN | apply IsS125.drew | apply IsS125.set_1 | apply IsS125.set_2 | refine IsS125.far ?_ NB371_367.out _ | refine IsS125.far ?_ NB371_392.out _) | exact HI371.out)⟩, ⟨by repeat (first | (with_reducible first | exact HB.out | apply below_alloc | apply pw_below_drewN | apply below_drew1 | refine below_set ?_ (IsS125.ge HI371.out) | refine below_set ?_ GE367.out | refine below_set ?_ GE392.out) | exact HB.out)⟩⟩
     ·rw [if_neg c31] at H
      have c31b0 : (t393 == 3) = false := beq_eq_false_iff_ne.mpr c31
      have c31b1 : (t393 != 3) = true := bne_iff_ne.mpr c31
      have H' := Aside0.mk H
      clear H
      go_wp2
      go_meet
      case rel => exact ⟨_, (t372), (t377), (t387), (t389), sqr, H', ⟨sqo⟩, ⟨by (with_reducible repeat (first | apply Kd.R_alloc | apply Kd.R_drewN | apply Kd.R_drew)); exact HO374.out⟩, ⟨sqb BK367.out⟩, ⟨sqb BK392.out⟩, ⟨by repeat (first | (with_reducible first | exact HI371.out | apply IsS125.alloc | apply IsS125.drewN | apply IsS125.drew | apply IsS125.set_1 | apply IsS125.set_2 | refine IsS125.far ?_ NB371_367.out _ | refine IsS125.far ?_ NB371_392.out _) | exact HI371.out)⟩, ⟨by repeat (first | (with_reducible first | exact HB.out | apply below_alloc | apply pw_below_drewN | apply below_drew1 | refine below_set ?_ (IsS125.ge HI371.out) | refine below_set ?_ GE367.out | refine below_set ?_ GE392.out) | exact HB.out)⟩⟩
 case rest =>
  clear HC9; try clear c1; try clear c2; try clear p2; try clear c3; try clear p6; try clear c9; try clear c10; try clear c11; try clear c19; try clear c20; try clear c23; try clear c23b0; try clear c23b1; try clear c24; try clear c26; try clear c26b0; try clear c26b1; try clear c27; try clear c27b0; try clear c27b1; try clear c28; try clear c29; try clear c31; try clear c31b0; try clear c31b1; try clear c32; try clear c33; try clear hcz21_0; try clear hcz21_1; try clear hcz21_2; try clear hcz21_3; try clear hcz21_4; try clear hcz30_0; try clear hcz30_1; try clear hcz30_2; try clear hcz30_3; try clear hcz30_4; try clear hcz34_0; try clear hcz34_1; try clear hcz34_2; try clear hcz34_3; try clear hcz34_4; try clear hfz21_0; try clear hfz21_1; try clear hfz21_2; try clear hfz21_3; try clear hfz21_4; try clear hfz30_0; try clear hfz30_1; try clear hfz30_2; try clear hfz30_3; try clear hfz30_4
  try clear hfz34_0; try clear hfz34_1; try clear hfz34_2; try clear hfz34_3; try clear hfz34_4
  obtain ⟨kq, x9_8, x10_8, x393001_8, x393003_8, rfl, HA, HJ8, HO_9, BK367, BK392, HI371, HB⟩ := hcut
  cases kq with
  | zero => exact absurd HA.out (by simp [spec_DrawCheckQuote.j0])
  | succ kj8 =>
   have H := HA.out
   clear HA
   simp only [spec_DrawCheckQuote.j0] at H
   obtain ⟨⟨t399, t400, t401⟩, A35, H⟩ := bA H
   dsimp only at H
   obtain ⟨y402, hy402⟩ : ∃ y_ : List Int, y_ = (([200, 200, 200, 201] : List Int)) := ⟨_, rfl⟩
   replace H : ((spec_l1Int.f t368 t400 t401 y402).bind fun bt405 => ((spec_l1Int.f t368 bt405.2.1 bt405.2.2 (([0, 3, 9] : List Int))).bind fun bt411 => (some (bt405.1, t386, x393001_8, t388, x393003_8, t390, x9_8, x10_8, wrap64 (x393003_8 + t399), bt411.1)))) = some (r1, r2, r3, r4, r5, r6, r7, r8, r9, r10) := by first | (rw [hy402]; with_reducible exact H) | (have H2_ := (Option.bind_some _ _).symm.trans H; rw [hy402]; with_reducible exact H2_) | (have H2_ := (Option.bind_some _ _).symm.trans H; with_reducible exact H2_) | with_reducible exact H | (rw [hy402]; exact H) | exact H
   have Ny402 := Aside0.mk hy402
   clear hy402
   obtain ⟨⟨t405, t406, t407⟩, A36, H⟩ := bA H
   dsimp only at H
   obtain ⟨y408, hy408⟩ : ∃ y_ : List Int, y_ = (([0, 3, 9] : List Int)) := ⟨_, rfl⟩
   replace H : ((spec_l1Int.f t368 t406 t407 y408).bind fun bt411 => (some (t405, t386, x393001_8, t388, x393003_8, t390, x9_8, x10_8, wrap64 (x393003_8 + t399), bt411.1))) = some (r1, r2, r3, r4, r5, r6, r7, r8, r9, r10) := by first | (rw [hy408]; with_reducible exact H) | (have H2_ := (Option.bind_some _ _).symm.trans H; rw [hy408]; with_reducible exact H2_) | (have H2_ := (Option.bind_some _ _).symm.trans H; with_reducible exact H2_) | with_reducible exact H | (rw [hy408]; exact H) | exact H
   have Ny408 := Aside0.mk hy408
   clear hy408
   obtain ⟨⟨t411, t412, t413⟩, A37, H⟩ := bA H
   dsimp only at H
   simp only [Option.some.injEq, Prod.mk.injEq] at H
   obtain ⟨rfl, rfl, rfl, rfl, rfl, rfl, rfl, rfl, rfl, rfl⟩ := H
   try go_wp2
   replace HO_9 := Aside0.mk (Kd.R_drew HO_9.out)
   replace BK367 := Aside0.mk (blk_drew BK367.out)
   replace BK392 := Aside0.mk (blk_drew BK392.out)
   replace HI371 := Aside0.mk (IsS125.drew HI371.out)
   replace HB := Aside0.mk (below_drew1 HB.out)
   refine start_ (n := 6) (S := fun w' => w'.cell? ⟨gb392, 0, none⟩ = some (.int .i64 t386) ∧ w'.cell? ⟨gb392, 1, none⟩ = some (.int .i64 x393001_8) ∧ w'.cell? ⟨gb392, 2, none⟩ = some (.int .i64 t388) ∧ w'.cell? ⟨gb392, 3, none⟩ = some (.int .i64 x393003_8) ∧ w'.cell? ⟨gb392, 4, none⟩ = some (.int .i64 t390)) (ds := []) #[false, false, false, false, false, false] sqk rfl rfl (sc5 BK392.out) (fun hHeld => ?_)
   generalize wc.drew = w38 at HO_9 BK367 BK392 HI371 HB hHeld ⊢
   refine pu 0 53 ?_; refine pu 2 55 ?_; refine ta 1 54 ?_
   refine on 3 (some 56) (fun K hK => ?_)
   refine goes_ Try.func103 sqk rfl #[.pointer (some ⟨g371, 0, none⟩), .int .i64 6] (by rfl) rfl rfl sqm ?_
   with_reducible refine (spec_l1Below.calls g371 t368 t394 t395 6 t399 t400 t401 w _ ?side1 ?side2 A35.out).mono ?_
   (case side1 => repeat (first | (with_reducible first | exact HI371.out | apply IsS125.alloc | apply IsS125.drewN | apply IsS125.drew | apply IsS125.set_1 | apply IsS125.set_2 | refine IsS125.far ?_ NB371_367.out _ | refine IsS125.far ?_ NB371_392.out _) | exact HI371.out))
   (case side2 => exact z119_0)
   rintro e w39 ⟨rfl, hi, hb, hk⟩
   refine ⟨_, rfl, ?_⟩
   replace HO_9 := Aside0.mk (Kd.R_mono (Kd.R_keep (IsS125.apart (show IsS125 w _ g371 t368 t394 t395 from by repeat (first | (with_reducible first | exact HI371.out | apply IsS125.alloc | apply IsS125.drewN | apply IsS125.drew | apply IsS125.set_1 | apply IsS125.set_2 | refine IsS125.far ?_ NB371_367.out _ | refine IsS125.far ?_ NB371_392.out _) | exact HI371.out)) (sqq HO_9.out) (by decide)) hk (fun _ h => h.2)) (fun _ h => h.1))
   replace BK367 := Aside0.mk (KeepBut.blk hk (g' := gb367) (o := .cells #[.int .i64 0, .int .i64 0, .int .i64 0, .int .i64 0, .int .i64 0] 45 (0, 0)) (sqb BK367.out) NB367_371.out (by simp))
   replace BK392 := Aside0.mk (KeepBut.blk hk (g' := gb392) (o := .cells #[.int .i64 t386, .int .i64 x393001_8, .int .i64 t388, .int .i64 x393003_8, .int .i64 t390] 45 (0, 0)) (sqb BK392.out) NB392_371.out (by simp))
   replace HB := Aside0.mk (hb)
   replace HI371 := Aside0.mk (hi)
   (try clear hb)
   (try clear hb2)
   (try clear hk)
   (try clear hi)
   refine hK.out _ _ (sc5 BK392.out) (fun hHeld => ?_)
   clear hK K; refine no 56 ?_; refine pu 4 57 ?_; refine pu 5 13 ?_
   refine dn ?_
   try go_wp2
   replace HO_9 := Aside0.mk (Kd.R_drew HO_9.out)
   replace BK367 := Aside0.mk (blk_drew BK367.out)
   replace BK392 := Aside0.mk (blk_drew BK392.out)
   replace HI371 := Aside0.mk (IsS125.drew HI371.out)
   replace HB := Aside0.mk (below_drew1 HB.out)
   refine start_ (n := 16) (S := fun w' => True) (ds := []) #[false, false, false, false, false, false, false, false, false, false, false, false, false, false, false, false] sqk rfl rfl trivial (fun hHeld => ?_); refine with_tabW spec_DrawCheckQuote.tab15 spec_DrawCheckQuote.bits15 (fun HT_ HW_ => ?_)
   generalize w39.drew = w40 at HO_9 BK367 BK392 HI371 HB hHeld ⊢
   refine pu 0 58 ?_; refine pu 4 62 ?_; refine pu 5 63 ?_; refine pu 6 64 ?_; refine pu 7 65 ?_
   refine inv_at [1, 2, 3, 8, 9, 10, 11, 12, 13, 14, 15] (fun a0_ b a w' => ∃ (v403 : Value) (v409 : Value), a = putSel a0_ b [(1, 59, v403), (2, 60, .int .i64 t405), (3, 61, .agg #[.int .i64 t386, .int .i64 x393001_8, .int .i64 t388, .int .i64 x393003_8, .int .i64 t390]), (8, 66, v409), (9, 67, .int .i64 t411), (10, 2, .int .i64 t405), (12, 4, u9), (13, 5, .int .i64 x10_8), (14, 6, .int .i64 (wrap64 (x393003_8 + t399))), (15, 7, .int .i64 t411)] ∧ (Kd.R (Kd.int .i64) 3 w' w.heap.size (fun _ => True) u9 x9_8) ∧ (b 11 = false → w'.heap[gb367]? = some (.cells #[.int .i64 0, .int .i64 0, .int .i64 0, .int .i64 0, .int .i64 0] 45 (0, 0))) ∧ (w'.heap[gb392]? = some (.cells #[.int .i64 t386, .int .i64 x393001_8, .int .i64 t388, .int .i64 x393003_8, .int .i64 t390] 45 (0, 0))) ∧ (b 2 = false → IsS125 w w' g371 t368 t400 t401) ∧ (Below w.heap.size w w') ∧ (b 1 = true → Kd.R (Kd.int .i64) 3 w' w.heap.size (fun _ => True) v403 y402) ∧ (b 2 = true → b 9 = false → IsS125 w w' g371 t368 t406 t407) ∧ (b 8 = true → Kd.R (Kd.int .i64) 3 w' w.heap.size (fun _ => True) v409 y408) ∧ (b 9 = true → IsS125 w w' g371 t368 t412 t413) ∧ (b 11 = true → w'.heap[gb367]? = some (.cells #[.int .i64 t386, .int .i64 x393001_8, .int .i64 t388, .int .i64 x393003_8, .int .i64 t390] 45 (0, 0)))) HT_.out HW_.out sqk sqk ?_ ?_ ?_
   ·exact ⟨.bool false, .bool false, by simp only [putSel, Bool.false_eq_true, if_false], HO_9.out, fun _ => BK367.out, BK392.out, fun _ => HI371.out, HB.out, fun h_ => absurd h_ (by decide), fun h_ => absurd h_ (by decide), fun h_ => absurd h_ (by decide), fun h_ => absurd h_ (by decide), fun h_ => absurd h_ (by decide)⟩
   ·skip
    clear BK367 BK392 HB HI371 HO_9
    refine steps_cons ?_ ?_
    ·rintro b a w' ⟨v403, v409, ha, Q_HO_9, Q_BK367, Q_BK392, Q_HI371, Q_HB, Q_HO404, Q_HI371_e2, Q_HO410, Q_HI371_e9, Q_BK367_e11⟩ hb_ hon hoff
     refine ⟨_, rfl, fun K hK => ?_⟩
     replace ha := Aside0.mk ha
     have HO_9 := Aside0.mk Q_HO_9
     have BK367 := Aside0.mk (Q_BK367 (hoff 11 sqk))
     have BK392 := Aside0.mk Q_BK392
     have HI371 := Aside0.mk (Q_HI371 (hoff 2 sqk))
     have HB := Aside0.mk Q_HB
     refine Kd.R_lit_step (Kd.int .i64) _ 3 ?hg (N := 59) ?hd (xs := ([200, 200, 200, 201] : List Int)) (inner := [.int .i64 200, .int .i64 200, .int .i64 200, .int .i64 201]) (ok := fun _ => True) (okp := fun _ => True) ?hr ?hp (fun _ hk => hk) trivial (Below.refl _ _) (Nat.le_refl _) (by simp) ?_; (case hd => rfl); (case hg => rfl); (case hr => first | (go_simp; done) | (go_simp; rfl)); (case hp => exact (Reps.one (show Kd.M (Kd.int .i64) _ _ _ 200 [.int .i64 200] from rfl) (Reps.one (show Kd.M (Kd.int .i64) _ _ _ 200 [.int .i64 200] from rfl) (Reps.one (show Kd.M (Kd.int .i64) _ _ _ 200 [.int .i64 200] from rfl) (Reps.one (show Kd.M (Kd.int .i64) _ _ _ 201 [.int .i64 201] from rfl) (Reps.none _ _))))))
     intro v403 w41 ho42 hb hg_ hnew_
     clear hg_ hnew_
     (first | rw [← Ny402.out] at ho42 | (simp only [Int.reduceToNat] at ho42; rw [← Ny402.out] at ho42))
     have n0_ := Aside0.mk (Kd.R_elder' (sqq HO_9.out) (Kd.R_base ho42) hb)
     have n1_ := Aside0.mk (Kd.R_mono (ok' := fun _ => True) (Kd.R_lower ho42 (below_size z119_0)) (fun _ _ => trivial))
     have n2_ := Aside0.mk (blk_below (bo BK367) hb)
     have n3_ := Aside0.mk (blk_below (bo BK392) hb)
     have n4_ := Aside0.mk (IsS125.below z119_2 hb)
     have n5_ := Aside0.mk (below_step z119_0 hb)
     have z_HO410 := fun (h0_ : b 8 = true) => (show Kd.R (Kd.int .i64) 3 w41 w.heap.size (fun _ => True) v409 y408 from by first | exact (Kd.R_elder' z119_3 (Kd.R_base ho42) hb) | exact Kd.R_mono (Kd.R_elder' z119_3 (Kd.R_base ho42) hb) (fun _ h_ => by first | trivial | exact h_ | exact h_.1))
     clear HO_9; clear BK367; clear BK392; clear HI371; clear HB
     have HO_9 := n0_
     have HO404 := n1_
     have BK367 := n2_
     have BK392 := n3_
     have HI371 := n4_
     have HB := n5_
     clear n0_ n1_ n2_ n3_ n4_ n5_; clear hb ho42
     refine hK.out _ _ ⟨v403, v409, (by rw [ha.out]; exact putSel_upk 0 hb_ rfl rfl rfl), (sqR0 HO_9), fun _ => (sqb BK367.out), (sqb BK392.out), fun _ => z119_2, z119_0, fun _ => (sqR0 HO404), fun h0_ _ => absurd ((hoff 2 sqk).symm.trans h0_) (by decide), z_HO410, fun h0_ => absurd ((hoff 9 sqk).symm.trans h0_) (by decide), fun h0_ => absurd ((hoff 11 sqk).symm.trans h0_) (by decide)⟩
    refine steps_cons ?_ ?_
    ·rintro b a w' ⟨v403, v409, ha, Q_HO_9, Q_BK367, Q_BK392, Q_HI371, Q_HB, Q_HO404, Q_HI371_e2, Q_HO410, Q_HI371_e9, Q_BK367_e11⟩ hb_ hon hoff
     refine ⟨_, rfl, fun K hK => ?_⟩
     have e58 : a.tmps[58]? = some (.pointer (some ⟨g371, 0, none⟩)) := by rw [ha]; exact (putSel_off rfl).trans rfl
     have e59 : a.tmps[59]? = some (v403) := by rw [ha]; exact putSel_on (e := (1, 59, v403)) 0 rfl rfl (hon 1 sqk) rfl
     replace ha := Aside0.mk ha
     have HO_9 := Aside0.mk Q_HO_9
     have BK367 := Aside0.mk (Q_BK367 (hoff 11 sqk))
     have BK392 := Aside0.mk Q_BK392
     have HI371 := Aside0.mk (Q_HI371 hb_)
     have HB := Aside0.mk Q_HB
     have HO404 := Aside0.mk (Q_HO404 (hon 1 sqk))
     obtain ⟨Ao44, co44, eo44⟩ := Kd.R_slice HO404.out
     (first | subst eo44 | (injection eo44 with f1_ f2_ f3_; have f4_ := f1_.symm; have f5_ := f3_.symm; clear f1_ f2_ f3_; subst f4_; subst f5_))
     refine goes_ Try.func98 sqk rfl #[.pointer (some ⟨g371, 0, none⟩), .slice Ao44 y402.length co44] (by rfl) rfl rfl (by first | (simp only [List.map_toArray, List.map_cons, List.map_nil, Act.eval, Array.getD_eq_getD_getElem?, Option.getD_some, e58, e59]; done) | (simp only [List.map_toArray, List.map_cons, List.map_nil, Act.eval, Array.getD_eq_getD_getElem?, Option.getD_some, e58, e59]; rfl)) ?_
     with_reducible refine (spec_l1Int.calls g371 t368 t400 t401 _ _ y402 t405 t406 t407 w _ ?side1 ?side2 ?side3 ?side4 ?side5 A36.out).mono ?_
     (case side1 => repeat (first | (with_reducible first | exact HI371.out | apply IsS125.alloc | apply IsS125.drewN | apply IsS125.drew | apply IsS125.set_1 | apply IsS125.set_2 | refine IsS125.far ?_ NB371_367.out _ | refine IsS125.far ?_ NB371_392.out _) | exact HI371.out))
     (case side2 => exact z119_0)
     (case side3 => repeat (first | exact (Kd.R_reads' HO404.out).2.2 | (with_reducible refine Kd.C_alloc ?_ _) | (with_reducible refine Kd.C_drewN ?_ _) | (with_reducible refine Kd.C_drew ?_)))
     (case side4 => exact (Kd.R_reads' HO404.out).2.1)
     (case side5 => exact far_slice (IsS125.own_ne HI371.out HO404.out (by decide)))
     rintro e w45 ⟨rfl, hi, hb, hk⟩
     refine ⟨_, rfl, ?_⟩
     have n0_ := Aside0.mk (Kd.R_mono (Kd.R_keep (IsS125.apart (show IsS125 w _ g371 t368 t400 t401 from by repeat (first | (with_reducible first | exact HI371.out | apply IsS125.alloc | apply IsS125.drewN | apply IsS125.drew | apply IsS125.set_1 | apply IsS125.set_2 | refine IsS125.far ?_ NB371_367.out _ | refine IsS125.far ?_ NB371_392.out _) | exact HI371.out)) (sqq HO_9.out) (by decide)) hk (fun _ h => h.2)) (fun _ h => h.1))
     have n1_ := Aside0.mk (KeepBut.blk hk (g' := gb367) (o := .cells #[.int .i64 0, .int .i64 0, .int .i64 0, .int .i64 0, .int .i64 0] 45 (0, 0)) (sqb BK367.out) NB367_371.out (by simp))
     have n2_ := Aside0.mk (KeepBut.blk hk (g' := gb392) (o := .cells #[.int .i64 t386, .int .i64 x393001_8, .int .i64 t388, .int .i64 x393003_8, .int .i64 t390] 45 (0, 0)) (sqb BK392.out) NB392_371.out (by simp))
     have n3_ := Aside0.mk (Kd.R_mono (Kd.R_keep (IsS125.apart (show IsS125 w _ g371 t368 t400 t401 from by repeat (first | (with_reducible first | exact HI371.out | apply IsS125.alloc | apply IsS125.drewN | apply IsS125.drew | apply IsS125.set_1 | apply IsS125.set_2 | refine IsS125.far ?_ NB371_367.out _ | refine IsS125.far ?_ NB371_392.out _) | exact HI371.out)) (sqq HO404.out) (by decide)) hk (fun _ h => h.2)) (fun _ h => h.1))
     have n4_ := Aside0.mk (hb)
     have n5_ := Aside0.mk (hi)
     have z_HO410 := fun (h0_ : b 8 = true) => (show Kd.R (Kd.int .i64) 3 w45 w.heap.size (fun _ => True) v409 y408 from by first | exact (Kd.R_mono (Kd.R_keep (IsS125.apart (show IsS125 w _ g371 t368 t400 t401 from by repeat (first | (with_reducible first | exact HI371.out | apply IsS125.alloc | apply IsS125.drewN | apply IsS125.drew | apply IsS125.set_1 | apply IsS125.set_2 | refine IsS125.far ?_ NB371_367.out _ | refine IsS125.far ?_ NB371_392.out _) | exact HI371.out)) z119_3 (by decide)) hk (fun _ h => h.2)) (fun _ h => h.1)) | exact Kd.R_mono (Kd.R_mono (Kd.R_keep (IsS125.apart (show IsS125 w _ g371 t368 t400 t401 from by repeat (first | (with_reducible first | exact HI371.out | apply IsS125.alloc | apply IsS125.drewN | apply IsS125.drew | apply IsS125.set_1 | apply IsS125.set_2 | refine IsS125.far ?_ NB371_367.out _ | refine IsS125.far ?_ NB371_392.out _) | exact HI371.out)) z119_3 (by decide)) hk (fun _ h => h.2)) (fun _ h => h.1)) (fun _ h_ => by first | trivial | exact h_ | exact h_.1))
     clear HO_9; clear BK367; clear BK392; clear HO404; clear HB; clear HI371
     have HO_9 := n0_
     have BK367 := n1_
     have BK392 := n2_
     have HO404 := n3_
     have HB := n4_
     have HI371 := n5_
     clear n0_ n1_ n2_ n3_ n4_ n5_
     (try clear hb)
     (try clear hb2)
     (try clear hk)
     (try clear hi)
     refine hK.out _ _ ⟨.slice Ao44 y402.length co44, v409, (by rw [ha.out]; exact putSel_upk 1 hb_ rfl rfl rfl), (sqq HO_9.out), fun _ => (sqb BK367.out), (sqb BK392.out), fun h0_ => absurd ((up_self b 2).symm.trans h0_) (by decide), z119_0, fun _ => (sqq HO404.out), fun _ _ => z119_2, z_HO410, fun h0_ => absurd ((hoff 9 sqk).symm.trans h0_) (by decide), fun h0_ => absurd ((hoff 11 sqk).symm.trans h0_) (by decide)⟩
    refine steps_cons ?_ ?_
    ·rintro b a w' ⟨v403, v409, ha, Q_HO_9, Q_BK367, Q_BK392, Q_HI371, Q_HB, Q_HO404, Q_HI371_e2, Q_HO410, Q_HI371_e9, Q_BK367_e11⟩ hb_ hon hoff
     refine ⟨_, rfl, fun K hK => ?_⟩
     have e11 : a.tmps[11]? = some (.pointer (some ⟨gb392, 0, none⟩)) := by rw [ha]; exact (putSel_off rfl).trans rfl
     replace ha := Aside0.mk ha
     have HO_9 := Aside0.mk Q_HO_9
     have BK367 := Aside0.mk (Q_BK367 (hoff 11 sqk))
     have BK392 := Aside0.mk Q_BK392
     have HB := Aside0.mk Q_HB
     obtain ⟨hc0_, hc1_, hc2_, hc3_, hc4_⟩ := sc5 BK392.out
     refine value_ (w1 := w') (v := .agg #[.int .i64 t386, .int .i64 x393001_8, .int .i64 t388, .int .i64 x393003_8, .int .i64 t390]) (by rfl) rfl ?_ ?_
     ·go_simp
      (try simp only [i64_w])
      try rfl
     refine hK.out _ _ ⟨v403, v409, (by rw [ha.out]; exact putSel_upk 2 hb_ rfl rfl rfl), Q_HO_9, Q_BK367, Q_BK392, Q_HI371, Q_HB, Q_HO404, Q_HI371_e2, Q_HO410, Q_HI371_e9, fun h0_ => absurd ((hoff 11 sqk).symm.trans h0_) (by decide)⟩
    refine steps_cons ?_ ?_
    ·rintro b a w' ⟨v403, v409, ha, Q_HO_9, Q_BK367, Q_BK392, Q_HI371, Q_HB, Q_HO404, Q_HI371_e2, Q_HO410, Q_HI371_e9, Q_BK367_e11⟩ hb_ hon hoff
     refine ⟨_, rfl, fun K hK => ?_⟩
     replace ha := Aside0.mk ha
     have HO_9 := Aside0.mk Q_HO_9
     have BK367 := Aside0.mk (Q_BK367 (hoff 11 sqk))
     have BK392 := Aside0.mk Q_BK392
     have HB := Aside0.mk Q_HB
     refine Kd.R_lit_step (Kd.int .i64) _ 3 ?hg (N := 66) ?hd (xs := ([0, 3, 9] : List Int)) (inner := [.int .i64 0, .int .i64 3, .int .i64 9]) (ok := fun _ => True) (okp := fun _ => True) ?hr ?hp (fun _ hk => hk) trivial (Below.refl _ _) (Nat.le_refl _) (by simp) ?_; (case hd => rfl); (case hg => rfl); (case hr => first | (go_simp; done) | (go_simp; rfl)); (case hp => exact (Reps.one (show Kd.M (Kd.int .i64) _ _ _ 0 [.int .i64 0] from rfl) (Reps.one (show Kd.M (Kd.int .i64) _ _ _ 3 [.int .i64 3] from rfl) (Reps.one (show Kd.M (Kd.int .i64) _ _ _ 9 [.int .i64 9] from rfl) (Reps.none _ _)))))
     intro v409 w41 ho42 hb hg_ hnew_
     clear hg_ hnew_
     (first | rw [← Ny408.out] at ho42 | (simp only [Int.reduceToNat] at ho42; rw [← Ny408.out] at ho42))
     have n0_ := Aside0.mk (Kd.R_elder' (sqq HO_9.out) (Kd.R_base ho42) hb)
     have n1_ := Aside0.mk (Kd.R_mono (ok' := fun _ => True) (Kd.R_lower ho42 (below_size sqh)) (fun _ _ => trivial))
     have n2_ := Aside0.mk (blk_below (bo BK367) hb)
     have n3_ := Aside0.mk (blk_below (bo BK392) hb)
     have n5_ := Aside0.mk (below_step sqh hb)
     have z_HI371 := fun (h0_ : b 2 = false) => (show IsS125 w w41 g371 t368 t400 t401 from by first | exact (IsS125.below (by repeat (first | (with_reducible first | exact (Q_HI371 h0_) | apply IsS125.alloc | apply IsS125.drewN | apply IsS125.drew | apply IsS125.set_1 | apply IsS125.set_2 | refine IsS125.far ?_ NB371_367.out _ | refine IsS125.far ?_ NB371_392.out _) | exact (Q_HI371 h0_))) hb))
     have z_HO404 := fun (h0_ : b 1 = true) => (show Kd.R (Kd.int .i64) 3 w41 w.heap.size (fun _ => True) v403 y402 from by first | exact (Kd.R_elder' (by (with_reducible repeat (first | apply Kd.R_alloc | apply Kd.R_drewN | apply Kd.R_drew)); exact (Q_HO404 h0_)) (Kd.R_base ho42) hb) | exact Kd.R_mono (Kd.R_elder' (by (with_reducible repeat (first | apply Kd.R_alloc | apply Kd.R_drewN | apply Kd.R_drew)); exact (Q_HO404 h0_)) (Kd.R_base ho42) hb) (fun _ h_ => by first | trivial | exact h_ | exact h_.1))
     have z_HI371_e2 := fun (h0_ : b 2 = true) (h1_ : b 9 = false) => (show IsS125 w w41 g371 t368 t406 t407 from by first | exact (IsS125.below (by repeat (first | (with_reducible first | exact (Q_HI371_e2 h0_ h1_) | apply IsS125.alloc | apply IsS125.drewN | apply IsS125.drew | apply IsS125.set_1 | apply IsS125.set_2 | refine IsS125.far ?_ NB371_367.out _ | refine IsS125.far ?_ NB371_392.out _) | exact (Q_HI371_e2 h0_ h1_))) hb))
     clear HO_9; clear BK367; clear BK392; clear HB
     have HO_9 := n0_
     have HO410 := n1_
     have BK367 := n2_
     have BK392 := n3_
     have HB := n5_
     clear n0_ n1_ n2_ n3_ n5_; clear hb ho42
     refine hK.out _ _ ⟨v403, v409, (by rw [ha.out]; exact putSel_upk 3 hb_ rfl rfl rfl), (sqR0 HO_9), fun _ => (sqb BK367.out), (sqb BK392.out), z_HI371, sqh, z_HO404, z_HI371_e2, fun _ => (sqR0 HO410), fun h0_ => absurd ((hoff 9 sqk).symm.trans h0_) (by decide), fun h0_ => absurd ((hoff 11 sqk).symm.trans h0_) (by decide)⟩
    refine steps_cons ?_ ?_
    ·rintro b a w' ⟨v403, v409, ha, Q_HO_9, Q_BK367, Q_BK392, Q_HI371, Q_HB, Q_HO404, Q_HI371_e2, Q_HO410, Q_HI371_e9, Q_BK367_e11⟩ hb_ hon hoff
     refine ⟨_, rfl, fun K hK => ?_⟩
     have e65 : a.tmps[65]? = some (.pointer (some ⟨g371, 0, none⟩)) := by rw [ha]; exact (putSel_off rfl).trans rfl
     have e66 : a.tmps[66]? = some (v409) := by rw [ha]; exact putSel_on (e := (8, 66, v409)) 3 rfl rfl (hon 8 sqk) rfl
     replace ha := Aside0.mk ha
     have HO_9 := Aside0.mk Q_HO_9
     have BK367 := Aside0.mk (Q_BK367 (hoff 11 sqk))
     have BK392 := Aside0.mk Q_BK392
     have HB := Aside0.mk Q_HB
     have HO404 := Aside0.mk (Q_HO404 (hon 1 sqk))
     have HI371 := Aside0.mk (Q_HI371_e2 (hon 2 sqk) hb_)
     have HO410 := Aside0.mk (Q_HO410 (hon 8 sqk))
     obtain ⟨Ao48, co48, eo48⟩ := Kd.R_slice HO410.out
     (first | subst eo48 | (injection eo48 with f1_ f2_ f3_; have f4_ := f1_.symm; have f5_ := f3_.symm; clear f1_ f2_ f3_; subst f4_; subst f5_))
     refine goes_ Try.func98 sqk rfl #[.pointer (some ⟨g371, 0, none⟩), .slice Ao48 y408.length co48] (by rfl) rfl rfl (by first | (simp only [List.map_toArray, List.map_cons, List.map_nil, Act.eval, Array.getD_eq_getD_getElem?, Option.getD_some, e65, e66]; done) | (simp only [List.map_toArray, List.map_cons, List.map_nil, Act.eval, Array.getD_eq_getD_getElem?, Option.getD_some, e65, e66]; rfl)) ?_
     with_reducible refine (spec_l1Int.calls g371 t368 t406 t407 _ _ y408 t411 t412 t413 w _ ?side1 ?side2 ?side3 ?side4 ?side5 A37.out).mono ?_
     (case side1 => repeat (first | (with_reducible first | exact HI371.out | apply IsS125.alloc | apply IsS125.drewN | apply IsS125.drew | apply IsS125.set_1 | apply IsS125.set_2 | refine IsS125.far ?_ NB371_367.out _ | refine IsS125.far ?_ NB371_392.out _) | exact HI371.out))
     (case side2 => exact z119_0)
     (case side3 => repeat (first | exact (Kd.R_reads' HO410.out).2.2 | (with_reducible refine Kd.C_alloc ?_ _) | (with_reducible refine Kd.C_drewN ?_ _) | (with_reducible refine Kd.C_drew ?_)))
     (case side4 => exact (Kd.R_reads' HO410.out).2.1)
     (case side5 => exact far_slice (IsS125.own_ne HI371.out HO410.out (by decide)))
     rintro e w49 ⟨rfl, hi, hb, hk⟩
     refine ⟨_, rfl, ?_⟩
     replace HO_9 := Aside0.mk (Kd.R_mono (Kd.R_keep (IsS125.apart (show IsS125 w _ g371 t368 t406 t407 from by repeat (first | (with_reducible first | exact HI371.out | apply IsS125.alloc | apply IsS125.drewN | apply IsS125.drew | apply IsS125.set_1 | apply IsS125.set_2 | refine IsS125.far ?_ NB371_367.out _ | refine IsS125.far ?_ NB371_392.out _) | exact HI371.out)) (sqq HO_9.out) (by decide)) hk (fun _ h => h.2)) (fun _ h => h.1))
     replace BK367 := Aside0.mk (KeepBut.blk hk (g' := gb367) (o := .cells #[.int .i64 0, .int .i64 0, .int .i64 0, .int .i64 0, .int .i64 0] 45 (0, 0)) (sqb BK367.out) NB367_371.out (by simp))
     replace BK392 := Aside0.mk (KeepBut.blk hk (g' := gb392) (o := .cells #[.int .i64 t386, .int .i64 x393001_8, .int .i64 t388, .int .i64 x393003_8, .int .i64 t390] 45 (0, 0)) (sqb BK392.out) NB392_371.out (by simp))
     replace HO404 := Aside0.mk (Kd.R_mono (Kd.R_keep (IsS125.apart (show IsS125 w _ g371 t368 t406 t407 from by repeat (first | (with_reducible first | exact HI371.out | apply IsS125.alloc | apply IsS125.drewN | apply IsS125.drew | apply IsS125.set_1 | apply IsS125.set_2 | refine IsS125.far ?_ NB371_367.out _ | refine IsS125.far ?_ NB371_392.out _) | exact HI371.out)) (sqq HO404.out) (by decide)) hk (fun _ h => h.2)) (fun _ h => h.1))
     replace HO410 := Aside0.mk (Kd.R_mono (Kd.R_keep (IsS125.apart (show IsS125 w _ g371 t368 t406 t407 from by repeat (first | (with_reducible first | exact HI371.out | apply IsS125.alloc | apply IsS125.drewN | apply IsS125.drew | apply IsS125.set_1 | apply IsS125.set_2 | refine IsS125.far ?_ NB371_367.out _ | refine IsS125.far ?_ NB371_392.out _) | exact HI371.out)) (sqq HO410.out) (by decide)) hk (fun _ h => h.2)) (fun _ h => h.1))
     replace HB := Aside0.mk (hb)
     replace HI371 := Aside0.mk (hi)
     (try clear hb)
     (try clear hb2)
     (try clear hk)
     (try clear hi)
     refine hK.out _ _ ⟨v403, .slice Ao48 y408.length co48, (by rw [ha.out]; exact putSel_upk 4 hb_ rfl rfl rfl), (sqq HO_9.out), fun _ => (sqb BK367.out), (sqb BK392.out), fun h0_ => absurd ((hon 2 sqk).symm.trans h0_) (by decide), z119_0, fun _ => (sqq HO404.out), fun _ h1_ => absurd ((up_self b 9).symm.trans h1_) (by decide), fun _ => (sqq HO410.out), fun _ => z119_2, fun h0_ => absurd ((hoff 11 sqk).symm.trans h0_) (by decide)⟩
    refine steps_cons ?_ ?_
    ·rintro b a w' ⟨v403, v409, ha, Q_HO_9, Q_BK367, Q_BK392, Q_HI371, Q_HB, Q_HO404, Q_HI371_e2, Q_HO410, Q_HI371_e9, Q_BK367_e11⟩ hb_ hon hoff
     refine ⟨_, rfl, fun K hK => ?_⟩
     have e60 : a.tmps[60]? = some (.int .i64 t405) := by rw [ha]; exact putSel_on (e := (2, 60, .int .i64 t405)) 1 rfl rfl (hon 2 sqk) rfl
     replace ha := Aside0.mk ha
     have HO_9 := Aside0.mk Q_HO_9
     have BK367 := Aside0.mk (Q_BK367 (hoff 11 sqk))
     have BK392 := Aside0.mk Q_BK392
     have HB := Aside0.mk Q_HB
     have HO404 := Aside0.mk (Q_HO404 (hon 1 sqk))
     have HO410 := Aside0.mk (Q_HO410 (hon 8 sqk))
     have HI371 := Aside0.mk (Q_HI371_e9 (hon 9 sqk))
     refine value_ (w1 := w') (v := .int .i64 t405) (by rfl) rfl ?_ ?_
     ·go_simp
      (try simp only [i64_w])
      try rfl
     refine hK.out _ _ ⟨v403, v409, (by rw [ha.out]; exact putSel_upk 5 hb_ rfl rfl rfl), Q_HO_9, Q_BK367, Q_BK392, fun h0_ => absurd ((hon 2 sqk).symm.trans h0_) (by decide), Q_HB, Q_HO404, fun _ h1_ => absurd ((hon 9 sqk).symm.trans h1_) (by decide), Q_HO410, Q_HI371_e9, fun h0_ => absurd ((hoff 11 sqk).symm.trans h0_) (by decide)⟩
    refine steps_cons ?_ ?_
    ·rintro b a w' ⟨v403, v409, ha, Q_HO_9, Q_BK367, Q_BK392, Q_HI371, Q_HB, Q_HO404, Q_HI371_e2, Q_HO410, Q_HI371_e9, Q_BK367_e11⟩ hb_ hon hoff
     refine ⟨_, rfl, fun K hK => ?_⟩
     have e3 : a.tmps[3]? = some (.pointer (some ⟨gb367, 0, none⟩)) := by rw [ha]; exact (putSel_off rfl).trans rfl
     have e61 : a.tmps[61]? = some (.agg #[.int .i64 t386, .int .i64 x393001_8, .int .i64 t388, .int .i64 x393003_8, .int .i64 t390]) := by rw [ha]; exact putSel_on (e := (3, 61, .agg #[.int .i64 t386, .int .i64 x393001_8, .int .i64 t388, .int .i64 x393003_8, .int .i64 t390])) 2 rfl rfl (hon 3 sqk) rfl
     replace ha := Aside0.mk ha
     have HO_9 := Aside0.mk Q_HO_9
     have BK367 := Aside0.mk (Q_BK367 hb_)
     have BK392 := Aside0.mk Q_BK392
     have HB := Aside0.mk Q_HB
     have HO404 := Aside0.mk (Q_HO404 (hon 1 sqk))
     have HO410 := Aside0.mk (Q_HO410 (hon 8 sqk))
     have HI371 := Aside0.mk (Q_HI371_e9 (hon 9 sqk))
     obtain ⟨hs50, hfs50⟩ := sd1 BK367.out
     have hns50_1 := NB392_367.out
     have hms50_1 := NB367_392.out
     have hs51 : w'.cell? ⟨gb367, 1, none⟩ = some (.int .i64 0) := (blk_cell BK367.out 1).trans rfl
     have hfs51 := blk_frozen BK367.out 1
     have hns51_1 := NB392_367.out
     have hms51_1 := NB367_392.out
     have hs52 : w'.cell? ⟨gb367, 2, none⟩ = some (.int .i64 0) := (blk_cell BK367.out 2).trans rfl
     have hfs52 := blk_frozen BK367.out 2
     have hns52_1 := NB392_367.out
     have hms52_1 := NB367_392.out
     have hs53 : w'.cell? ⟨gb367, 3, none⟩ = some (.int .i64 0) := (blk_cell BK367.out 3).trans rfl
     have hfs53 := blk_frozen BK367.out 3
     have hns53_1 := NB392_367.out
     have hms53_1 := NB367_392.out
     have hs54 : w'.cell? ⟨gb367, 4, none⟩ = some (.int .i64 0) := (blk_cell BK367.out 4).trans rfl
     have hfs54 := blk_frozen BK367.out 4
     have hns54_1 := NB392_367.out
     have hms54_1 := NB367_392.out
     refine skip_ (w1 := ?_) (by rfl) rfl ?_ ?_
     rotate_left
     ·go_simp
      rfl
     refine hK.out _ _ ⟨v403, v409, (by rw [ha.out]; exact putSel_none (v := undef) rfl), (sqR1 HO_9 BK367), fun h0_ => absurd ((up_self b 11).symm.trans h0_) (by decide), (bp BK392), fun h0_ => absurd ((hon 2 sqk).symm.trans h0_) (by decide), z119_0, fun _ => (sqR1 HO404 BK367), fun _ h1_ => absurd ((hon 9 sqk).symm.trans h1_) (by decide), fun _ => (sqR1 HO410 BK367), fun _ => z119_2, fun _ => (bp BK367)⟩
    refine steps_cons ?_ ?_
    ·rintro b a w' ⟨v403, v409, ha, Q_HO_9, Q_BK367, Q_BK392, Q_HI371, Q_HB, Q_HO404, Q_HI371_e2, Q_HO410, Q_HI371_e9, Q_BK367_e11⟩ hb_ hon hoff
     refine ⟨_, rfl, fun K hK => ?_⟩
     have e62 : a.tmps[62]? = some (u9) := by rw [ha]; exact (putSel_off rfl).trans rfl
     replace ha := Aside0.mk ha
     have HO_9 := Aside0.mk Q_HO_9
     have BK392 := Aside0.mk Q_BK392
     have HB := Aside0.mk Q_HB
     have HO404 := Aside0.mk (Q_HO404 (hon 1 sqk))
     have HO410 := Aside0.mk (Q_HO410 (hon 8 sqk))
     have HI371 := Aside0.mk (Q_HI371_e9 (hon 9 sqk))
     have BK367 := Aside0.mk (Q_BK367_e11 (hon 11 sqk))
     refine value_ (w1 := w') (v := u9) (by rfl) rfl ?_ ?_
     ·go_simp
      (try simp only [i64_w])
      try rfl
     refine hK.out _ _ ⟨v403, v409, (by rw [ha.out]; exact putSel_upk 6 hb_ rfl rfl rfl), Q_HO_9, fun h0_ => absurd ((hon 11 sqk).symm.trans h0_) (by decide), Q_BK392, fun h0_ => absurd ((hon 2 sqk).symm.trans h0_) (by decide), Q_HB, Q_HO404, fun _ h1_ => absurd ((hon 9 sqk).symm.trans h1_) (by decide), Q_HO410, Q_HI371_e9, Q_BK367_e11⟩
    refine steps_cons ?_ ?_
    ·rintro b a w' ⟨v403, v409, ha, Q_HO_9, Q_BK367, Q_BK392, Q_HI371, Q_HB, Q_HO404, Q_HI371_e2, Q_HO410, Q_HI371_e9, Q_BK367_e11⟩ hb_ hon hoff
     refine ⟨_, rfl, fun K hK => ?_⟩
     have e63 : a.tmps[63]? = some (.int .i64 x10_8) := by rw [ha]; exact (putSel_off rfl).trans rfl
     replace ha := Aside0.mk ha
     have HO_9 := Aside0.mk Q_HO_9
     have BK392 := Aside0.mk Q_BK392
     have HB := Aside0.mk Q_HB
     have HO404 := Aside0.mk (Q_HO404 (hon 1 sqk))
     have HO410 := Aside0.mk (Q_HO410 (hon 8 sqk))
     have HI371 := Aside0.mk (Q_HI371_e9 (hon 9 sqk))
     have BK367 := Aside0.mk (Q_BK367_e11 (hon 11 sqk))
     refine value_ (w1 := w') (v := .int .i64 x10_8) (by rfl) rfl ?_ ?_
     ·go_simp
      (try simp only [i64_w])
      try rfl
     refine hK.out _ _ ⟨v403, v409, (by rw [ha.out]; exact putSel_upk 7 hb_ rfl rfl rfl), Q_HO_9, fun h0_ => absurd ((hon 11 sqk).symm.trans h0_) (by decide), Q_BK392, fun h0_ => absurd ((hon 2 sqk).symm.trans h0_) (by decide), Q_HB, Q_HO404, fun _ h1_ => absurd ((hon 9 sqk).symm.trans h1_) (by decide), Q_HO410, Q_HI371_e9, Q_BK367_e11⟩
    refine steps_cons ?_ ?_
    ·rintro b a w' ⟨v403, v409, ha, Q_HO_9, Q_BK367, Q_BK392, Q_HI371, Q_HB, Q_HO404, Q_HI371_e2, Q_HO410, Q_HI371_e9, Q_BK367_e11⟩ hb_ hon hoff
     refine ⟨_, rfl, fun K hK => ?_⟩
     have e64 : a.tmps[64]? = some (.int .i64 (wrap64 (x393003_8 + t399))) := by rw [ha]; exact (putSel_off rfl).trans rfl
     replace ha := Aside0.mk ha
     have HO_9 := Aside0.mk Q_HO_9
     have BK392 := Aside0.mk Q_BK392
     have HB := Aside0.mk Q_HB
     have HO404 := Aside0.mk (Q_HO404 (hon 1 sqk))
     have HO410 := Aside0.mk (Q_HO410 (hon 8 sqk))
     have HI371 := Aside0.mk (Q_HI371_e9 (hon 9 sqk))
     have BK367 := Aside0.mk (Q_BK367_e11 (hon 11 sqk))
     refine value_ (w1 := w') (v := .int .i64 (wrap64 (x393003_8 + t399))) (by rfl) rfl ?_ ?_
     ·go_simp
      (try simp only [i64_w])
      try rfl
     refine hK.out _ _ ⟨v403, v409, (by rw [ha.out]; exact putSel_upk 8 hb_ rfl rfl rfl), Q_HO_9, fun h0_ => absurd ((hon 11 sqk).symm.trans h0_) (by decide), Q_BK392, fun h0_ => absurd ((hon 2 sqk).symm.trans h0_) (by decide), Q_HB, Q_HO404, fun _ h1_ => absurd ((hon 9 sqk).symm.trans h1_) (by decide), Q_HO410, Q_HI371_e9, Q_BK367_e11⟩
    refine steps_cons ?_ ?_
    ·rintro b a w' ⟨v403, v409, ha, Q_HO_9, Q_BK367, Q_BK392, Q_HI371, Q_HB, Q_HO404, Q_HI371_e2, Q_HO410, Q_HI371_e9, Q_BK367_e11⟩ hb_ hon hoff
     refine ⟨_, rfl, fun K hK => ?_⟩
     have e67 : a.tmps[67]? = some (.int .i64 t411) := by rw [ha]; exact putSel_on (e := (9, 67, .int .i64 t411)) 4 rfl rfl (hon 9 sqk) rfl
     replace ha := Aside0.mk ha
     have HO_9 := Aside0.mk Q_HO_9
     have BK392 := Aside0.mk Q_BK392
     have HB := Aside0.mk Q_HB
     have HO404 := Aside0.mk (Q_HO404 (hon 1 sqk))
     have HO410 := Aside0.mk (Q_HO410 (hon 8 sqk))
     have HI371 := Aside0.mk (Q_HI371_e9 (hon 9 sqk))
     have BK367 := Aside0.mk (Q_BK367_e11 (hon 11 sqk))
     refine value_ (w1 := w') (v := .int .i64 t411) (by rfl) rfl ?_ ?_
     ·go_simp
      (try simp only [i64_w])
      try rfl
     refine hK.out _ _ ⟨v403, v409, (by rw [ha.out]; exact putSel_upk 9 hb_ rfl rfl rfl), Q_HO_9, fun h0_ => absurd ((hon 11 sqk).symm.trans h0_) (by decide), Q_BK392, fun h0_ => absurd ((hon 2 sqk).symm.trans h0_) (by decide), Q_HB, Q_HO404, fun _ h1_ => absurd ((hon 9 sqk).symm.trans h1_) (by decide), Q_HO410, Q_HI371_e9, Q_BK367_e11⟩
    exact steps_nil
   rintro b a w54 hall ⟨v403, v409, ha, Q_HO_9, Q_BK367, Q_BK392, Q_HI371, Q_HB, Q_HO404, Q_HI371_e2, Q_HO410, Q_HI371_e9, Q_BK367_e11⟩
   clear BK367 BK392 HB HI371 HO_9
   have hb1_ := hall 1 sqk
   have hb2_ := hall 2 sqk
   have hb3_ := hall 3 sqk
   have hb8_ := hall 8 sqk
   have hb9_ := hall 9 sqk
   have hb10_ := hall 10 sqk
   have hb11_ := hall 11 sqk
   have hb12_ := hall 12 sqk
   have hb13_ := hall 13 sqk
   have hb14_ := hall 14 sqk
   have hb15_ := hall 15 sqk
   subst ha
   simp only [putSel, hb1_, hb2_, hb3_, hb8_, hb9_, hb10_, hb11_, hb12_, hb13_, hb14_, hb15_, if_true, Act.put, List.setIfInBounds_toArray, List.set_cons_zero, List.set_cons_succ]
   have HO_9 := Aside0.mk Q_HO_9
   clear Q_HO_9; clear Q_BK367
   have BK392 := Aside0.mk Q_BK392
   clear Q_BK392; clear Q_HI371
   have HB := Aside0.mk Q_HB
   clear Q_HB
   have HO404 := Aside0.mk (Q_HO404 hb1_)
   clear Q_HO404; clear Q_HI371_e2
   have HO410 := Aside0.mk (Q_HO410 hb8_)
   clear Q_HO410
   have HI371 := Aside0.mk (Q_HI371_e9 hb9_)
   clear Q_HI371_e9
   have BK367 := Aside0.mk (Q_BK367_e11 hb11_)
   clear Q_BK367_e11; clear hall hb1_ hb2_ hb3_ hb8_ hb9_ hb10_ hb11_ hb12_ hb13_ hb14_ hb15_
   try go_wp2
   refine bodyPost_ret (results_list (rs := [.tmp 2, .cell 3 45, .tmp 4, .tmp 5, .tmp 6, .tmp 7]) rfl (by simp) (.tmp (.cell gb367 45 #[.int .i64 t386, .int .i64 x393001_8, .int .i64 t388, .int .i64 x393003_8, .int .i64 t390] (0, 0) _ rfl (sqb BK367.out) Try.underlying45 rfl sqk (.tmp (.tmp (.tmp (.tmp .nil))))))) rfl ?_
   exact ⟨_, sqe, sqR0 HO_9, by repeat (first | (with_reducible first | exact HB.out | apply below_alloc | apply pw_below_drewN | apply below_drew1 | refine below_set ?_ (IsS125.ge HI371.out) | refine below_set ?_ GE367.out | refine below_set ?_ GE392.out) | exact HB.out)⟩

end Go.Proofs.Ytlmhemcpkmjkiaa.XFnAppraisal
