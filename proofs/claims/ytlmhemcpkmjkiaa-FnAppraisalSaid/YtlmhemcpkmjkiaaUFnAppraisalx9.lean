/- Written by this session's own program (wip/xprint, which runs over the kit's print): what the functions that the law reaches come to, each proved; and the law's row. Conditions: none. -/
import Derived.Test.YtlmhemcpkmjkiaaUFnAppraisalSq
import Derived.Test.YtlmhemcpkmjkiaaUFnAppraisalx0
import Derived.Test.YtlmhemcpkmjkiaaUFnAppraisalx5
import Derived.Test.YtlmhemcpkmjkiaaUFnAppraisalx8
namespace Go.Proofs.Ytlmhemcpkmjkiaa.XFnAppraisal
open Go.RowKit Go.Proofs.YtlmhemcpkmjkiaaW.PrintWords Go.Proofs.YtlmhemcpkmjkiaaW.PrintLast Go.Proofs.YtlmhemcpkmjkiaaW.PrintMore Go.Proofs.YtlmhemcpkmjkiaaSq
attribute [local go_sem] max2_int min2_int max_two min_two max_three min_three max_four min_four   -- for this text's walks alone
set_option linter.unusedVariables false
set_option linter.unusedSimpArgs false

/-! ### spec_MakeQuote: function 33 -/
def spec_MakeQuote.j0 : Nat → Int → Int → List Int → Int → Int → Bool → Option (Int × Int × Int × Int × Int × Bool)
 | 0, _, _, _, _, _, _ => none
 | k + 1, x0, x1, x2, x3, x4, x30 => if x30 = true then (some (0, 0, 0, 0, 0, false)) else ((spec_RegisterOf.f k x2).bind fun t358 => ((spec_KeyedHash.f k x0 (([x1, t358, x3, x4] : List Int))).bind fun t363 => (some (x1, t358, x3, x4, t363, true))))
def spec_MakeQuote.f (k : Nat) (a0 : Int) (a1 : Int) (l2 : List Int) (a3 : Int) (a4 : Int) : Option (Int × Int × Int × Int × Int × Bool) := (spec_IsValidKey.f a0).bind fun t354 => (if t354 = true then ((spec_HasKind.f a1 2).bind fun t355 => (if t355 = true then ((spec_IsLog.f k l2).bind fun t356 => (if t356 = true then ((spec_IsTime.f a4).bind fun t357 => (spec_MakeQuote.j0 k a0 a1 l2 a3 a4 (!t357))) else (spec_MakeQuote.j0 k a0 a1 l2 a3 a4 true))) else (spec_MakeQuote.j0 k a0 a1 l2 a3 a4 true))) else (spec_MakeQuote.j0 k a0 a1 l2 a3 a4 true))
set_option maxHeartbeats 8000000 in
set_option maxRecDepth 100000 in
theorem spec_MakeQuote.calls (k : Nat) (a0 : Int) (a1 : Int) (A2 : Option Addr) (c2 : Nat) (l2 : List Int) (a3 : Int) (a4 : Int) (r1 : Int) (r2 : Int) (r3 : Int) (r4 : Int) (r5 : Int) (r6 : Bool) (w : World) (hr2 : Kd.C (Kd.int .i64) w A2 l2.length l2) (hc2 : l2.length ≤ c2) (h : spec_MakeQuote.f k a0 a1 l2 a3 a4 = some (r1, r2, r3, r4, r5, r6)) :
  Calls Try.prog 33 #[.int .i64 a0, .int .i64 a1, .slice A2 l2.length c2, .int .i64 a3, .int .i64 a4] w fun e w' => e = .returned (.tuple #[.agg #[.int .i64 r1, .int .i64 r2, .int .i64 r3, .int .i64 r4, .int .i64 r5], .bool r6]) ∧ Below w.heap.size w w' := by
 have hu45 := Try.underlying45
 have HR2 := Aside0.mk hr2
 have HC2 := Aside0.mk hc2
 clear hr2 hc2
 have HB := Aside0.mk (Below.refl w.heap.size w)
 have H : ((spec_IsValidKey.f a0).bind fun t354 => (if t354 = true then ((spec_HasKind.f a1 2).bind fun t355 => (if t355 = true then ((spec_IsLog.f k l2).bind fun t356 => (if t356 = true then ((spec_IsTime.f a4).bind fun t357 => (spec_MakeQuote.j0 k a0 a1 l2 a3 a4 (!t357))) else (spec_MakeQuote.j0 k a0 a1 l2 a3 a4 true))) else (spec_MakeQuote.j0 k a0 a1 l2 a3 a4 true))) else (spec_MakeQuote.j0 k a0 a1 l2 a3 a4 true))) = some (r1, r2, r3, r4, r5, r6) := h
 clear h
 have HC6 := Aside0.mk H
 clear H
 go_enter Try.func33, Try.ntmps33
 go_upto_region 1 with (first | ((with_reducible refine gate_dst (N := 10) rfl ?_); refine bx (N := 10) (cs := #[.int .i64 0, .int .i64 0, .int .i64 0, .int .i64 0, .int .i64 0]) (t := 45) ?_; intro gb353 hg w7 hbox hb; have BK353 := Aside0.mk (hbox); have GW353 := Aside0.mk ((by rw [hg]; exact (below_size sqh) : w.heap.size ≤ gb353)); have GE353 := Aside0.mk ((by rw [hg]; exact (below_size sqh) : w.heap.size ≤ gb353)); replace HB := Aside0.mk (below_step sqh hb); clear hb hbox hg))
 (try simp only [Act.put, List.setIfInBounds_toArray, List.set_cons_zero, List.set_cons_succ])
 go_cut [30] (fun v30 wc => ∃ (kq : Nat) (x30_5 : Bool), v30 = .bool x30_5 ∧ Aside0 (spec_MakeQuote.j0 kq a0 a1 l2 a3 a4 x30_5 = some (r1, r2, r3, r4, r5, r6)) ∧ Aside0 (kq ≤ k) ∧ Aside0 (wc.heap[gb353]? = some (.cells #[.int .i64 0, .int .i64 0, .int .i64 0, .int .i64 0, .int .i64 0] 45 (0, 0))) ∧ Aside0 (Below w.heap.size w wc))
 case first =>
  have H := HC6.out
  clear HC6
  obtain ⟨t354, A8, H⟩ := bA H
  by_cases c9 : t354 = true
  ·subst c9
   replace H := iT H
   obtain ⟨t355, A10, H⟩ := bA H
   by_cases c11 : t355 = true
   ·subst c11
    replace H := iT H
    obtain ⟨t356, A12, H⟩ := bA H
    by_cases c13 : t356 = true
    ·subst c13
     replace H := iT H
     obtain ⟨t357, A14, H⟩ := bA H
     have H' := Aside0.mk H
     clear H
     go_wp2_with (first | ((with_reducible refine gate_callee (f := 81) rfl ?_); refine goesL_ (some 14) rfl rfl Try.func81 sqk rfl #[.int .i64 a0] rfl sqm ?_; (with_reducible refine (spec_IsValidKey.calls a0 true _ A8.out).mono ?_); rintro e w' ⟨rfl, ⟨nd, rfl⟩⟩; refine ⟨_, rfl, ?_⟩) | (go_at_call 82; (with_reducible refine (spec_HasKind.calls a1 2 true _ A10.out).mono ?_); rintro e w' ⟨rfl, ⟨nd, rfl⟩⟩) | (go_at_call 83; (with_reducible refine (spec_IsLog.calls k _ _ l2 true _ ?side1 ?side2 A12.out).mono ?_); (case side1 => repeat (first | exact (Kd.C_below HR2.out sqh) | (with_reducible refine Kd.C_alloc ?_ _) | (with_reducible refine Kd.C_drewN ?_ _) | (with_reducible refine Kd.C_drew ?_))); (case side2 => exact HC2.out); rintro e w' ⟨rfl, ⟨nd, rfl⟩⟩) | (go_at_call 84; (with_reducible refine (spec_IsTime.calls a4 t357 _ A14.out).mono ?_); rintro e w' ⟨rfl, ⟨nd, rfl⟩⟩))
     go_meet
     case rel => exact ⟨_, (!t357), sqr, H', ⟨sqo⟩, ⟨sqb BK353.out⟩, ⟨sqh⟩⟩
    ·replace c13 := Bool.eq_false_iff.mpr c13
     subst c13
     replace H := iF H
     have H' := Aside0.mk H
     clear H
     go_wp2_with (first | ((with_reducible refine gate_callee (f := 81) rfl ?_); refine goesL_ (some 14) rfl rfl Try.func81 sqk rfl #[.int .i64 a0] rfl sqm ?_; (with_reducible refine (spec_IsValidKey.calls a0 true _ A8.out).mono ?_); rintro e w' ⟨rfl, ⟨nd, rfl⟩⟩; refine ⟨_, rfl, ?_⟩) | (go_at_call 82; (with_reducible refine (spec_HasKind.calls a1 2 true _ A10.out).mono ?_); rintro e w' ⟨rfl, ⟨nd, rfl⟩⟩) | (go_at_call 83; (with_reducible refine (spec_IsLog.calls k _ _ l2 false _ ?side1 ?side2 A12.out).mono ?_); (case side1 => repeat (first | exact (Kd.C_below HR2.out sqh) | (with_reducible refine Kd.C_alloc ?_ _) | (with_reducible refine Kd.C_drewN ?_ _) | (with_reducible refine Kd.C_drew ?_))); (case side2 => exact HC2.out); rintro e w' ⟨rfl, ⟨nd, rfl⟩⟩))
     go_meet
     case rel => exact ⟨_, (true), sqr, H', ⟨sqo⟩, ⟨sqb BK353.out⟩, ⟨sqh⟩⟩
   ·replace c11 := Bool.eq_false_iff.mpr c11
    subst c11
    replace H := iF H
    have H' := Aside0.mk H
    clear H
    go_wp2_with (first | ((with_reducible refine gate_callee (f := 81) rfl ?_); refine goesL_ (some 14) rfl rfl Try.func81 sqk rfl #[.int .i64 a0] rfl sqm ?_; (with_reducible refine (spec_IsValidKey.calls a0 true _ A8.out).mono ?_); rintro e w' ⟨rfl, ⟨nd, rfl⟩⟩; refine ⟨_, rfl, ?_⟩) | (go_at_call 82; (with_reducible refine (spec_HasKind.calls a1 2 false _ A10.out).mono ?_); rintro e w' ⟨rfl, ⟨nd, rfl⟩⟩))
    go_meet
    case rel => exact ⟨_, (true), sqr, H', ⟨sqo⟩, ⟨sqb BK353.out⟩, ⟨sqh⟩⟩
  ·replace c9 := Bool.eq_false_iff.mpr c9
   subst c9
   replace H := iF H
   have H' := Aside0.mk H
   clear H
   go_wp2_with (first | ((with_reducible refine gate_callee (f := 81) rfl ?_); refine goesL_ (some 14) rfl rfl Try.func81 sqk rfl #[.int .i64 a0] rfl sqm ?_; (with_reducible refine (spec_IsValidKey.calls a0 false _ A8.out).mono ?_); rintro e w' ⟨rfl, ⟨nd, rfl⟩⟩; refine ⟨_, rfl, ?_⟩))
   go_meet
   case rel => exact ⟨_, (true), sqr, H', ⟨sqo⟩, ⟨sqb BK353.out⟩, ⟨sqh⟩⟩
 case rest =>
  clear HC6; try clear c1; try clear c2; try clear p2; try clear c3; try clear c8; try clear c9; try clear c11; try clear c13
  obtain ⟨kq, x30_5, rfl, HA, HJ5, BK353, HB⟩ := hcut
  cases kq with
  | zero => exact absurd HA.out (by simp [spec_MakeQuote.j0])
  | succ kj5 =>
   have H := HA.out
   clear HA
   simp only [spec_MakeQuote.j0] at H
   by_cases c15 : x30_5 = true
   ·subst c15
    replace H := iT H
    simp only [Option.some.injEq, Prod.mk.injEq] at H
    obtain ⟨rfl, rfl, rfl, rfl, rfl, rfl⟩ := H
    obtain ⟨hcz16_0, hcz16_1, hcz16_2, hcz16_3, hcz16_4, hfz16_0, hfz16_1, hfz16_2, hfz16_3, hfz16_4⟩ := sd5 BK353.out
    go_wp2
    refine bodyPost_ret (results_ct rfl _ _ gb353 45 #[.int .i64 0, .int .i64 0, .int .i64 0, .int .i64 0, .int .i64 0] (0, 0) _ rfl ?_ Try.underlying45 rfl sqk) rfl ?_; exact bp BK353
    exact ⟨sqe, sqh⟩
   ·replace c15 := Bool.eq_false_iff.mpr c15
    subst c15
    replace H := iF H
    obtain ⟨t358, A17, H⟩ := bA H
    obtain ⟨y360, hy360⟩ : ∃ y_ : List Int, y_ = (([a1, t358, a3, a4] : List Int)) := ⟨_, rfl⟩
    replace H : ((spec_KeyedHash.f kj5 a0 y360).bind fun t363 => (some (a1, t358, a3, a4, t363, true))) = some (r1, r2, r3, r4, r5, r6) := by first | (rw [hy360]; with_reducible exact H) | (have H2_ := (Option.bind_some _ _).symm.trans H; rw [hy360]; with_reducible exact H2_) | (have H2_ := (Option.bind_some _ _).symm.trans H; with_reducible exact H2_) | with_reducible exact H | (rw [hy360]; exact H) | exact H
    have Ny360 := Aside0.mk hy360
    clear hy360
    obtain ⟨t363, A18, H⟩ := bA H
    simp only [Option.some.injEq, Prod.mk.injEq] at H
    obtain ⟨rfl, rfl, rfl, rfl, rfl, rfl⟩ := H
    go_wp2_with (first | ((with_reducible refine gate_callee (f := 85) rfl ?_); refine goesL_ (some 34) rfl rfl Try.func85 sqk rfl #[.slice A2 l2.length c2] rfl sqm ?_; (with_reducible refine (spec_RegisterOf.calls kj5 _ _ l2 t358 _ ?side1 ?side2 A17.out).mono ?_); (case side1 => exact sqn (Kd.C_below HR2.out HB.out)); (case side2 => exact HC2.out); rintro e w19 ⟨rfl, hb⟩; refine ⟨_, rfl, ?_⟩; replace BK353 := Aside0.mk (blk_below (bo BK353) hb); replace HB := Aside0.mk (below_step sqh hb); (try clear hb)) | ((with_reducible refine gate_dst (N := 12) rfl ?_); refine bx (N := 12) (cs := #[.int .i64 0, .int .i64 0, .int .i64 0, .int .i64 0, .int .i64 0]) (t := 45) ?_; intro gb359 hg w20 hbox hb; have BK359 := Aside0.mk (hbox); have GW359 := Aside0.mk ((by rw [hg]; exact (below_size sqh) : w.heap.size ≤ gb359)); have GE359 := Aside0.mk ((by rw [hg]; exact (below_size sqh) : w.heap.size ≤ gb359)); replace HB := Aside0.mk (below_step sqh hb); have NB353_359 := Aside0.mk ((by rw [hg]; exact Nat.ne_of_lt (blk_lt (bo BK353)) : gb353 ≠ gb359)); have NB359_353 := Aside0.mk ((by rw [hg]; exact Nat.ne_of_gt (blk_lt (bo BK353)) : gb359 ≠ gb353)); replace BK353 := Aside0.mk (blk_below (bo BK353) hb); clear hb hbox hg; have hnb21 := NB359_353.out; have hnc21 := NB353_359.out; obtain ⟨hcz22_0, hcz22_1, hcz22_2, hcz22_3, hcz22_4, hfz22_0, hfz22_1, hfz22_2, hfz22_3, hfz22_4⟩ := sd5 BK359.out) | ((with_reducible refine gate_dst (N := 47) rfl ?_); refine Kd.R_lit (Kd.int .i64) _ 3 ?hg (N := 47) ?hd (xs := ([a1, t358, a3, a4] : List Int)) (inner := [.int .i64 a1, .int .i64 t358, .int .i64 a3, .int .i64 a4]) (ok := fun _ => True) (okp := fun _ => True) ?hr ?hp (fun _ hk => hk) trivial (Below.refl _ _) (Nat.le_refl _) (by simp) ?_; (case hd => rfl); (case hg => rfl); (case hr => first | (go_simp; done) | (go_simp; rfl)); (case hp => exact (Reps.one (show Kd.M (Kd.int .i64) _ _ _ a1 [.int .i64 a1] from rfl) (Reps.one (show Kd.M (Kd.int .i64) _ _ _ t358 [.int .i64 t358] from rfl) (Reps.one (show Kd.M (Kd.int .i64) _ _ _ a3 [.int .i64 a3] from rfl) (Reps.one (show Kd.M (Kd.int .i64) _ _ _ a4 [.int .i64 a4] from rfl) (Reps.none _ _)))))); intro v361 w23 ho24 hb hg_ hnew_; clear hg_ hnew_; (first | rw [← Ny360.out] at ho24 | (simp only [Int.reduceToNat] at ho24; rw [← Ny360.out] at ho24)); have HO362 := Aside0.mk (Kd.R_lower ho24 (below_size sqh)); replace BK353 := Aside0.mk (blk_below (g := gb353) (o := .cells #[.int .i64 0, .int .i64 0, .int .i64 0, .int .i64 0, .int .i64 0] 45 (0, 0)) (bp BK353) hb); replace BK359 := Aside0.mk (blk_below (g := gb359) (o := .cells #[.int .i64 a1, .int .i64 t358, .int .i64 a3, .int .i64 a4, .int .i64 0] 45 (0, 0)) (bp BK359) hb); replace HB := Aside0.mk (below_step sqh hb); clear hb ho24; obtain ⟨Ao25, co25, eo25⟩ := Kd.R_slice HO362.out; subst eo25) | ((with_reducible refine gate_callee (f := 86) rfl ?_); refine goesL_ (some 48) rfl rfl Try.func86 sqk rfl #[.int .i64 a0, .slice Ao25 y360.length co25] rfl sqm ?_; (with_reducible refine (spec_KeyedHash.calls kj5 a0 _ _ y360 t363 _ ?side1 ?side2 A18.out).mono ?_); (case side1 => repeat (first | exact (Kd.R_reads' HO362.out).2.2 | (with_reducible refine Kd.C_alloc ?_ _) | (with_reducible refine Kd.C_drewN ?_ _) | (with_reducible refine Kd.C_drew ?_))); (case side2 => exact (Kd.R_reads' HO362.out).2.1); rintro e w26 ⟨rfl, hb⟩; refine ⟨_, rfl, ?_⟩; replace HO362 := Aside0.mk (Kd.R_below (sqq HO362.out) hb); replace BK353 := Aside0.mk (blk_below (bo BK353) hb); replace BK359 := Aside0.mk (blk_below (bo BK359) hb); replace HB := Aside0.mk (below_step sqh hb); (try clear hb); obtain ⟨hcz27_0, hcz27_1, hcz27_2, hcz27_3, hcz27_4, hfz27_0, hfz27_1, hfz27_2, hfz27_3, hfz27_4⟩ := sd5 BK359.out; obtain ⟨hcz28_0, hcz28_1, hcz28_2, hcz28_3, hcz28_4, hfz28_0, hfz28_1, hfz28_2, hfz28_3, hfz28_4⟩ := sd5 BK353.out))
    refine bodyPost_ret (results_ct rfl _ _ gb353 45 #[.int .i64 a1, .int .i64 t358, .int .i64 a3, .int .i64 a4, .int .i64 t363] (0, 0) _ rfl ?_ Try.underlying45 rfl sqk) rfl ?_; exact bp BK353
    exact ⟨sqe, sqh⟩

/-! ### spec_l5Name: function 99 -/
def spec_l5Name.f (s0_0 : List Int) (s0_1 : Int) (s0_2 : Int) (a1 : Int) : Option (Int × Int × Int) := (spec_l1Below.f s0_0 s0_1 s0_2 3).bind fun bt364 => (some (wrap64 ((wrap64 (a1 * 10)) + bt364.1), bt364.2.1, bt364.2.2))
set_option maxHeartbeats 8000000 in
set_option maxRecDepth 100000 in
theorem spec_l5Name.calls (g : Nat) (s0_0 : List Int) (s0_1 : Int) (s0_2 : Int) (a1 : Int) (r1 : Int) (r2 : Int) (r3 : Int) (w0 w : World) (hI : IsS125 w0 w g s0_0 s0_1 s0_2) (hB : Below w0.heap.size w0 w) (h : spec_l5Name.f s0_0 s0_1 s0_2 a1 = some (r1, r2, r3)) :
  Calls Try.prog 99 #[.pointer (some ⟨g, 0, none⟩), .int .i64 a1] w fun e w' => e = .returned (.int .i64 r1) ∧ IsS125 w0 w' g s0_0 r2 r3 ∧ Below w0.heap.size w0 w' ∧ KeepBut w w' g none := by
 have HI0 := Aside0.mk hI
 have HK := Aside0.mk (KeepBut.refl w g none)
 have HL := Aside0.mk hB.size
 clear hI
 have HW0 := Aside0.mk hB.size
 have HB := Aside0.mk hB
 clear hB
 have H : ((spec_l1Below.f s0_0 s0_1 s0_2 3).bind fun bt364 => (some (wrap64 ((wrap64 (a1 * 10)) + bt364.1), bt364.2.1, bt364.2.2))) = some (r1, r2, r3) := h
 clear h
 obtain ⟨⟨t364, t365, t366⟩, A3, H⟩ := bA H
 dsimp only at H
 simp only [Option.some.injEq, Prod.mk.injEq] at H
 obtain ⟨rfl, rfl, rfl⟩ := H
 go_enter Try.func99, Try.ntmps99
 go_wp2_with (first | ((with_reducible refine gate_callee (f := 103) rfl ?_); refine goesL_ (some 8) rfl rfl Try.func103 sqk rfl #[.pointer (some ⟨g, 0, none⟩), .int .i64 3] rfl sqm ?_; (with_reducible refine (spec_l1Below.calls g s0_0 s0_1 s0_2 3 t364 t365 t366 w0 _ ?side1 ?side2 A3.out).mono ?_); (case side1 => exact sqi); (case side2 => exact sqj); rintro e w4 ⟨rfl, hi, hb, hk⟩; refine ⟨_, rfl, ?_⟩; replace HK := Aside0.mk (KeepBut.trans sqp hk (.inl rfl)); replace HB := Aside0.mk (hb); replace HI0 := Aside0.mk (hi); (try clear hb); (try clear hk); (try clear hi)))
 go_ret
 exact ⟨sqe, sqi, sqj, sqp⟩

end Go.Proofs.Ytlmhemcpkmjkiaa.XFnAppraisal
