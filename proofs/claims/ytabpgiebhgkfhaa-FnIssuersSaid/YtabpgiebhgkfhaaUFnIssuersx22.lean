/- Written by this session's own program (wip/xprint, which runs over the kit's print): what the functions that the law reaches come to, each proved; and the law's row. Conditions: none. -/
import Derived.Test.YtabpgiebhgkfhaaUFnIssuersSq
import Derived.Test.YtabpgiebhgkfhaaUFnIssuersx0
import Derived.Test.YtabpgiebhgkfhaaUFnIssuersx14
import Derived.Test.YtabpgiebhgkfhaaUFnIssuersx15
import Derived.Test.YtabpgiebhgkfhaaUFnIssuersx17
import Derived.Test.YtabpgiebhgkfhaaUFnIssuersx21
namespace Go.Proofs.Ytabpgiebhgkfhaa.XFnIssuers
open Go.RowKit Go.Proofs.YtabpgiebhgkfhaaW.PrintWords Go.Proofs.YtabpgiebhgkfhaaW.PrintLast Go.Proofs.YtabpgiebhgkfhaaW.PrintMore Go.Proofs.YtabpgiebhgkfhaaSq
attribute [local go_sem] max2_int min2_int max_two min_two max_three min_three max_four min_four   -- for this text's walks alone
set_option linter.unusedVariables false
set_option linter.unusedSimpArgs false

/-! ### spec_l7Store: function 104 -/
def spec_l7Store.l0 : Nat → List (S55) → Int → List Int → Int → Int → Option ((List (S55)) × Int × Int)
 | 0, _, _, _, _, _ => none
 | k + 1, x3, x4, x1000, x1001, x1002 => if x4 > 0 then ((spec_l6Fact.f x1000 x1001 x1002).bind fun bt612 => ((spec_PutFact.f k x3 bt612.1 bt612.2.1 bt612.2.2.1 bt612.2.2.2.1 bt612.2.2.2.2.1 bt612.2.2.2.2.2.1).bind fun bt620 => (spec_l7Store.l0 k bt620.1 (wrap64 (x4 - 1)) x1000 bt612.2.2.2.2.2.2.1 bt612.2.2.2.2.2.2.2))) else (some (x3, x1001, x1002))
def spec_l7Store.f (k : Nat) (s0_0 : List Int) (s0_1 : Int) (s0_2 : Int) : Option ((List (S55)) × Int × Int) := (spec_l1Below.f s0_0 s0_1 s0_2 10).bind fun bt609 => (spec_l7Store.l0 k (([] : List (S55))) bt609.1 s0_0 bt609.2.1 bt609.2.2)
set_option maxHeartbeats 8000000 in
set_option maxRecDepth 100000 in
theorem spec_l7Store.calls (k : Nat) (g : Nat) (s0_0 : List Int) (s0_1 : Int) (s0_2 : Int) (r1 : List (S55)) (r2 : Int) (r3 : Int) (w0 w : World) (hI : IsS125 w0 w g s0_0 s0_1 s0_2) (hB : Below w0.heap.size w0 w) (h : spec_l7Store.f k s0_0 s0_1 s0_2 = some (r1, r2, r3)) :
  Calls Try.prog 104 #[.pointer (some ⟨g, 0, none⟩)] w fun e w' => ∃ v0_ : Value, e = .returned (v0_) ∧ Kd.R k55 55 w' w.heap.size (fun _ => True) v0_ r1 ∧ IsS125 w0 w' g s0_0 r2 r3 ∧ Below w0.heap.size w0 w' ∧ KeepBut w w' g none := by
 have HI0 := As_.mk hI
 have HK := As_.mk (KeepBut.refl w g none)
 have HL := As_.mk hB.size
 clear hI
 have HW0 := As_.mk hB.size
 have HB := As_.mk hB
 clear hB
 have H : ((spec_l1Below.f s0_0 s0_1 s0_2 10).bind fun bt609 => (spec_l7Store.l0 k (([] : List (S55))) bt609.1 s0_0 bt609.2.1 bt609.2.2)) = some (r1, r2, r3) := h
 clear h
 obtain ⟨y606, hy606⟩ : ∃ y_ : List (S55), y_ = (([] : List (S55))) := ⟨_, rfl⟩
 replace H : ((spec_l1Below.f s0_0 s0_1 s0_2 10).bind fun bt609 => (spec_l7Store.l0 k y606 bt609.1 s0_0 bt609.2.1 bt609.2.2)) = some (r1, r2, r3) := by first | (rw [hy606]; with_reducible exact H) | (have H2_ := (Option.bind_some _ _).symm.trans H; rw [hy606]; with_reducible exact H2_) | (have H2_ := (Option.bind_some _ _).symm.trans H; with_reducible exact H2_) | with_reducible exact H | (rw [hy606]; exact H) | exact H
 have Ny606 := As_.mk hy606
 clear hy606
 obtain ⟨⟨t609, t610, t611⟩, A2, H⟩ := bA H
 dsimp only at H
 have H' := As_.mk H
 clear H
 go_enter Try.func104, Try.ntmps104
 go_wp2_with (first | ((with_reducible refine gate_dst (N := 5) rfl ?_); refine Kd.R_lit k55 _ 55 ?hg (N := 5) ?hd (xs := ([] : List (S55))) (inner := []) (ok := fun _ => True) (okp := fun _ => True) ?hr ?hp (fun _ hk => hk) trivial (Below.refl _ _) (Nat.le_refl _) (by simp) ?_; (case hd => rfl); (case hg => rfl); (case hr => first | (go_simp; done) | (go_simp; rfl)); (case hp => exact (Reps.none _ _)); intro v607 w3 ho4 hb hg_ hnew_; clear hg_ hnew_; (first | rw [← Ny606.out] at ho4 | (simp only [Int.reduceToNat] at ho4; rw [← Ny606.out] at ho4)); have HO608 := As_.mk (Kd.R_lower ho4 (keep_size (w := w) (g := g) (row := none) sqp)); replace HK := As_.mk (KeepBut.trans sqp (KeepBut.of_below hb g none) (.inl rfl)); replace HB := As_.mk (below_step sqj hb); replace HI0 := As_.mk (IsS125.below sqi hb); clear hb ho4) | ((with_reducible refine gate_callee (f := 105) rfl ?_); refine goesL_ (some 7) rfl rfl Try.func105 sqk rfl #[.pointer (some ⟨g, 0, none⟩), .int .i64 10] rfl sqm ?_; (with_reducible refine (spec_l1Below.calls g s0_0 s0_1 s0_2 10 t609 t610 t611 w0 _ ?side1 ?side2 A2.out).mono ?_); (case side1 => exact sqi); (case side2 => exact sqj); rintro e w5 ⟨rfl, hi, hb, hk⟩; refine ⟨_, rfl, ?_⟩; replace HO608 := As_.mk (Kd.R_mono (Kd.R_keep (IsS125.apart (show IsS125 w0 _ g s0_0 s0_1 s0_2 from sqi) (sqq HO608.out) (by decide)) hk (fun _ h => h.2)) (fun _ h => h.1)); replace HK := As_.mk (KeepBut.trans sqp hk (.inl rfl)); replace HB := As_.mk (hb); replace HI0 := As_.mk (hi); (try clear hb); (try clear hk); (try clear hi)))
 go_loopg [3, 4] k (fun kq v3 v4 w' => ∃ (x3_1 : List (S55)) (x4_1 : Int) (x1001_1 : Int) (x1002_1 : Int), v4 = .int .i64 x4_1 ∧ As_ (spec_l7Store.l0 kq x3_1 x4_1 s0_0 x1001_1 x1002_1 = some (r1, r2, r3)) ∧ As_ (kq ≤ k) ∧ As_ (Kd.R k55 55 w' w.heap.size (fun _ => True) v3 x3_1) ∧ As_ (IsS125 w0 w' g s0_0 x1001_1 x1002_1) ∧ As_ (KeepBut w w' g none) ∧ As_ (Below w0.heap.size w0 w'))
 case atStart => exact ⟨(y606), (t609), (t610), (t611), sqr, H', ⟨Nat.le_refl _⟩, ⟨by (with_reducible repeat (first | apply Kd.R_alloc | apply Kd.R_drewN | apply Kd.R_drew)); exact HO608.out⟩, ⟨sqi⟩, ⟨sqp⟩, ⟨sqj⟩⟩
 case round =>
  clear H'; try clear c1; try clear p2
  obtain ⟨x3_1, x4_1, x1001_1, x1002_1, rfl, HA, HK1, HO_3, HI0, HK, HB⟩ := hrel
  cases gk with
  | zero => exact absurd HA.out (by simp [spec_l7Store.l0])
  | succ k1 =>
   have H := HA.out
   clear HA
   simp only [spec_l7Store.l0] at H
   by_cases c6 : x4_1 > 0
   ·rw [if_pos c6] at H
    have c6b0 : decide (0 < x4_1) = true := decide_eq_true c6
    clear c6
    obtain ⟨⟨t612, t613, t614, t615, t616, t617, t618, t619⟩, A7, H⟩ := bA H
    dsimp only at H
    obtain ⟨⟨t620, t623⟩, A8, H⟩ := bA H
    dsimp only at H
    have H' := As_.mk H
    clear H
    go_wp2_with (first | ((with_reducible refine gate_callee (f := 121) rfl ?_); refine goesL_ (some 15) rfl rfl Try.func121 sqk rfl #[.pointer (some ⟨g, 0, none⟩)] rfl sqm ?_; (with_reducible refine (spec_l6Fact.calls g s0_0 x1001_1 x1002_1 t612 t613 t614 t615 t616 t617 t618 t619 w0 _ ?side1 ?side2 A7.out).mono ?_); (case side1 => exact sqi); (case side2 => exact sqj); rintro e w9 ⟨rfl, hi, hb, hk⟩; refine ⟨_, rfl, ?_⟩; replace HO_3 := As_.mk (Kd.R_mono (Kd.R_keep (IsS125.apart (show IsS125 w0 _ g s0_0 x1001_1 x1002_1 from sqi) (sqq HO_3.out) (by decide)) hk (fun _ h => h.2)) (fun _ h => h.1)); replace HK := As_.mk (KeepBut.trans sqp hk (.inl rfl)); replace HB := As_.mk (hb); replace HI0 := As_.mk (hi); (try clear hb); (try clear hk); (try clear hi); obtain ⟨Ao10, co10, eo10⟩ := Kd.R_slice HO_3.out; subst eo10) | ((with_reducible refine gate_callee (f := 66) rfl ?_); refine goesL_ (some 16) rfl rfl Try.func66 sqk rfl #[.slice Ao10 x3_1.length co10, .agg #[.int .i64 t612, .int .i64 t613, .int .i64 t614, .int .i64 t615, .int .i64 t616, .int .i64 t617]] rfl sqm ?_; (with_reducible refine (spec_PutFact.calls k1 _ _ x3_1 t612 t613 t614 t615 t616 t617 t620 t623 _ ?side1 ?side2 A8.out).mono ?_); (case side1 => repeat (first | exact (Kd.R_reads' HO_3.out).2.2 | (with_reducible refine Kd.C_alloc ?_ _) | (with_reducible refine Kd.C_drewN ?_ _) | (with_reducible refine Kd.C_drew ?_))); (case side2 => exact (Kd.R_reads' HO_3.out).2.1); rintro e w11 ⟨v621, rfl, ho0, hb⟩; refine ⟨_, rfl, ?_⟩; have HO622 := As_.mk (Kd.R_lower (Kd.R_new' ho0 (Kd.R_lt (sqq HO_3.out))) (keep_size (w := w) (g := g) (row := none) sqp)); replace HO_3 := As_.mk (Kd.R_elder' (sqq HO_3.out) (Kd.R_base ho0) hb); replace HK := As_.mk (KeepBut.trans sqp (KeepBut.of_below hb g none) (.inl rfl)); replace HB := As_.mk (below_step sqj hb); replace HI0 := As_.mk (IsS125.below sqi hb); (try clear hb); (try clear ho0)))
    go_roundg k1
    case measure => have := HK1.out; omega
    case rel => exact ⟨(t620), (wrap64 (x4_1 - 1)), (t618), (t619), sqr, H', ⟨by have := HK1.out; omega⟩, ⟨by (with_reducible repeat (first | apply Kd.R_alloc | apply Kd.R_drewN | apply Kd.R_drew)); exact Kd.R_mono HO622.out (fun _ hk => trivial)⟩, ⟨sqi⟩, ⟨sqp⟩, ⟨sqj⟩⟩
   ·rw [if_neg c6] at H
    have c6b0 : decide (0 < x4_1) = false := decide_eq_false c6
    clear c6
    simp only [Option.some.injEq, Prod.mk.injEq] at H
    obtain ⟨rfl, rfl, rfl⟩ := H
    go_wp2
    go_ret
    exact ⟨_, sqe, by (with_reducible repeat (first | apply Kd.R_alloc | apply Kd.R_drewN | apply Kd.R_drew)); exact HO_3.out, sqi, sqj, sqp⟩

/-! ### spec_DrawTakeStated: function 63 -/
def spec_DrawTakeStated.l0 : Nat → List (S55) → List (S76) → Int → List Int → Int → Int → Option ((List (S48)) × (List (S55)) × (List (S76)))
 | 0, _, _, _, _, _, _ => none
 | k + 1, x6, x7, x8, x628000, x628001, x628002 => if x8 > 0 then ((spec_l8Stated.f k x628000 x628001 x628002).bind fun bt639 => (if x7.length < 2513169434916 then (spec_DrawTakeStated.l0 k x6 (x7 ++ [(⟨(⟨bt639.1, bt639.2.1, bt639.2.2.1, bt639.2.2.2.1, bt639.2.2.2.2.1, bt639.2.2.2.2.2.1⟩ : S55), bt639.2.2.2.2.2.2.1⟩ : S76)]) (wrap64 (x8 - 1)) x628000 bt639.2.2.2.2.2.2.2.1 bt639.2.2.2.2.2.2.2.2) else (none))) else ((spec_l8Issuers.f).bind fun t651 => (some (t651, x6, x7)))
def spec_DrawTakeStated.f (k : Nat) (l0 : List Int) : Option ((List (S48)) × (List (S55)) × (List (S76))) := (spec_l1New.f k l0).bind fun bt624 => ((spec_l7Store.f k bt624.1 bt624.2.1 bt624.2.2).bind fun bt628 => ((spec_l1Below.f bt624.1 bt628.2.1 bt628.2.2 6).bind fun bt636 => (spec_DrawTakeStated.l0 k bt628.1 (([] : List (S76))) bt636.1 bt624.1 bt636.2.1 bt636.2.2)))
theorem z63_0 {Q : Prop} (g : Q := by repeat (first | (with_reducible first | exact HB.out | apply bA_ | apply bN_ | apply bD_ | refine bS_ ?_ (IsS125.ge HI627.out)) | exact HB.out)) : Q := g
theorem z63_1 {Q : Prop} (g : Q := by repeat (first | (with_reducible first | exact HI627.out | apply IsS125.alloc | apply IsS125.drewN | apply IsS125.drew | apply IsS125.set_1 | apply IsS125.set_2) | exact HI627.out)) : Q := g
set_option maxHeartbeats 8000000 in
set_option maxRecDepth 100000 in
theorem spec_DrawTakeStated.calls (k : Nat) (A0 : Option Addr) (c0 : Nat) (l0 : List Int) (r1 : List (S48)) (r2 : List (S55)) (r3 : List (S76)) (w : World) (hr0 : Kd.C (Kd.int .u8) w A0 l0.length l0) (hc0 : l0.length ≤ c0) (h : spec_DrawTakeStated.f k l0 = some (r1, r2, r3)) :
  Calls Try.prog 63 #[.slice A0 l0.length c0] w fun e w' => ∃ v0_ v1_ v2_ : Value, e = .returned (.tuple #[v0_, v1_, v2_]) ∧ Kd.N k48 48 w' w.heap.size (fun k_ => (w.heap.size ≤ k_) ∧ some k_ ≠ (v1_ : Value).ownBlock ∧ some k_ ≠ (v2_ : Value).ownBlock) v0_ r1 ∧ Kd.R k55 55 w' w.heap.size (fun k_ => (w.heap.size ≤ k_)) v1_ r2 ∧ Kd.R k76 76 w' w.heap.size (fun k_ => (w.heap.size ≤ k_)) v2_ r3 ∧ Below w.heap.size w w' := by
 have HR0 := As_.mk hr0
 have HC0 := As_.mk hc0
 clear hr0 hc0
 have HB := As_.mk (Below.refl w.heap.size w)
 have H : ((spec_l1New.f k l0).bind fun bt624 => ((spec_l7Store.f k bt624.1 bt624.2.1 bt624.2.2).bind fun bt628 => ((spec_l1Below.f bt624.1 bt628.2.1 bt628.2.2 6).bind fun bt636 => (spec_DrawTakeStated.l0 k bt628.1 (([] : List (S76))) bt636.1 bt624.1 bt636.2.1 bt636.2.2)))) = some (r1, r2, r3) := h
 clear h
 obtain ⟨⟨t624, t625, t626⟩, A2, H⟩ := bA H
 dsimp only at H
 obtain ⟨⟨t628, t631, t632⟩, A3, H⟩ := bA H
 dsimp only at H
 obtain ⟨y633, hy633⟩ : ∃ y_ : List (S76), y_ = (([] : List (S76))) := ⟨_, rfl⟩
 replace H : ((spec_l1Below.f t624 t631 t632 6).bind fun bt636 => (spec_DrawTakeStated.l0 k t628 y633 bt636.1 t624 bt636.2.1 bt636.2.2)) = some (r1, r2, r3) := by first | (rw [hy633]; with_reducible exact H) | (have H2_ := (Option.bind_some _ _).symm.trans H; rw [hy633]; with_reducible exact H2_) | (have H2_ := (Option.bind_some _ _).symm.trans H; with_reducible exact H2_) | with_reducible exact H | (rw [hy633]; exact H) | exact H
 have Ny633 := As_.mk hy633
 clear hy633
 obtain ⟨⟨t636, t637, t638⟩, A4, H⟩ := bA H
 dsimp only at H
 have H' := As_.mk H
 clear H
 go_enter Try.func63, Try.ntmps63
 go_wp2_with (first | ((with_reducible refine gate_callee (f := 98) rfl ?_); refine goesL_ (some 10) rfl rfl Try.func98 sqk rfl #[.slice A0 l0.length c0] rfl sqm ?_; (with_reducible refine (spec_l1New.calls k _ _ l0 t624 t625 t626 w _ ?side1 ?side2 ?side3 A2.out).mono ?_); (case side1 => exact sqh); (case side2 => exact HR0.out); (case side3 => exact HC0.out); rintro e w5 ⟨g627, rfl, hi, hb, hb2⟩; refine ⟨_, rfl, ?_⟩; replace HB := As_.mk (hb); have HI627 := As_.mk (hi); (try clear hb); (try clear hb2); (try clear hi)) | ((with_reducible refine gate_callee (f := 104) rfl ?_); refine goesL_ (some 12) rfl rfl Try.func104 sqk rfl #[.pointer (some ⟨g627, 0, none⟩)] rfl sqm ?_; (with_reducible refine (spec_l7Store.calls k g627 t624 t625 t626 t628 t631 t632 w _ ?side1 ?side2 A3.out).mono ?_); (case side1 => repeat (first | (with_reducible first | exact HI627.out | apply IsS125.alloc | apply IsS125.drewN | apply IsS125.drew | apply IsS125.set_1 | apply IsS125.set_2) | exact HI627.out)); (case side2 => exact z63_0); rintro e w6 ⟨v629, rfl, ho0, hi, hb, hk⟩; refine ⟨_, rfl, ?_⟩; have HO630 := As_.mk (Kd.R_lower (Kd.R_newM (M := fun k_ => (w.heap.size ≤ k_)) ho0 (below_size z63_0) (fun k_ h_ => h_)) (below_size z63_0)); replace HB := As_.mk (hb); replace HI627 := As_.mk (hi); (try clear hb); (try clear hk); (try clear hi); (try clear ho0)) | ((with_reducible refine gate_dst (N := 13) rfl ?_); refine Kd.R_lit k76 _ 76 ?hg (N := 13) ?hd (xs := ([] : List (S76))) (inner := []) (ok := fun _ => True) (okp := fun _ => True) ?hr ?hp (fun _ hk => hk) trivial (Below.refl _ _) (Nat.le_refl _) (by simp) ?_; (case hd => rfl); (case hg => rfl); (case hr => first | (go_simp; done) | (go_simp; rfl)); (case hp => exact (Reps.none _ _)); intro v634 w7 ho8 hb hg_ hnew_; clear hg_ hnew_; (first | rw [← Ny633.out] at ho8 | (simp only [Int.reduceToNat] at ho8; rw [← Ny633.out] at ho8)); replace HO630 := As_.mk (Kd.R_below (sqq HO630.out) hb); have HO635 := As_.mk (Kd.R_lower (Kd.R_newM (M := fun k_ => (w.heap.size ≤ k_)) ho8 (below_size z63_0) (fun k_ h_ => h_)) (below_size z63_0)); replace HB := As_.mk (below_step z63_0 hb); replace HI627 := As_.mk (IsS125.below z63_1 hb); clear hb ho8) | ((with_reducible refine gate_callee (f := 105) rfl ?_); refine goesL_ (some 15) rfl rfl Try.func105 sqk rfl #[.pointer (some ⟨g627, 0, none⟩), .int .i64 6] rfl sqm ?_; (with_reducible refine (spec_l1Below.calls g627 t624 t631 t632 6 t636 t637 t638 w _ ?side1 ?side2 A4.out).mono ?_); (case side1 => repeat (first | (with_reducible first | exact HI627.out | apply IsS125.alloc | apply IsS125.drewN | apply IsS125.drew | apply IsS125.set_1 | apply IsS125.set_2) | exact HI627.out)); (case side2 => exact z63_0); rintro e w9 ⟨rfl, hi, hb, hk⟩; refine ⟨_, rfl, ?_⟩; replace HO630 := As_.mk (Kd.R_mono (Kd.R_keep (IsS125.apart (show IsS125 w _ g627 t624 t631 t632 from by repeat (first | (with_reducible first | exact HI627.out | apply IsS125.alloc | apply IsS125.drewN | apply IsS125.drew | apply IsS125.set_1 | apply IsS125.set_2) | exact HI627.out)) (sqq HO630.out) (by decide)) hk (fun _ h => h.2)) (fun _ h => h.1)); replace HO635 := As_.mk (Kd.R_mono (Kd.R_keep (IsS125.apart (show IsS125 w _ g627 t624 t631 t632 from by repeat (first | (with_reducible first | exact HI627.out | apply IsS125.alloc | apply IsS125.drewN | apply IsS125.drew | apply IsS125.set_1 | apply IsS125.set_2) | exact HI627.out)) (sqq HO635.out) (by decide)) hk (fun _ h => h.2)) (fun _ h => h.1)); replace HB := As_.mk (hb); replace HI627 := As_.mk (hi); (try clear hb); (try clear hk); (try clear hi)))
 go_loopg [7, 8] k (fun kq v7 v8 w' => ∃ (x7_1 : List (S76)) (x8_1 : Int) (x628001_1 : Int) (x628002_1 : Int), v8 = .int .i64 x8_1 ∧ As_ (spec_DrawTakeStated.l0 kq t628 x7_1 x8_1 t624 x628001_1 x628002_1 = some (r1, r2, r3)) ∧ As_ (kq ≤ k) ∧ As_ (Kd.R k55 55 w' w.heap.size (fun k_ => (w.heap.size ≤ k_)) v629 t628) ∧ As_ (Kd.R k76 76 w' w.heap.size (fun k_ => (w.heap.size ≤ k_)) v7 x7_1) ∧ As_ (IsS125 w w' g627 t624 x628001_1 x628002_1) ∧ As_ (Below w.heap.size w w'))
 case atStart => exact ⟨(y633), (t636), (t637), (t638), sqr, H', ⟨Nat.le_refl _⟩, ⟨by (with_reducible repeat (first | apply Kd.R_alloc | apply Kd.R_drewN | apply Kd.R_drew)); exact Kd.R_mono HO630.out (fun _ hk => hk.1)⟩, ⟨by (with_reducible repeat (first | apply Kd.R_alloc | apply Kd.R_drewN | apply Kd.R_drew)); exact Kd.R_mono HO635.out (fun _ hk => hk.1)⟩, ⟨by repeat (first | (with_reducible first | exact HI627.out | apply IsS125.alloc | apply IsS125.drewN | apply IsS125.drew | apply IsS125.set_1 | apply IsS125.set_2) | exact HI627.out)⟩, ⟨by repeat (first | (with_reducible first | exact HB.out | apply bA_ | apply bN_ | apply bD_ | refine bS_ ?_ (IsS125.ge HI627.out)) | exact HB.out)⟩⟩
 case round =>
  clear H'; try clear c1; try clear p2; try clear c6; try clear c9
  obtain ⟨x7_1, x8_1, x628001_1, x628002_1, rfl, HA, HK1, HO_6, HO_7, HI627, HB⟩ := hrel
  cases gk with
  | zero => exact absurd HA.out (by simp [spec_DrawTakeStated.l0])
  | succ k1 =>
   have H := HA.out
   clear HA
   simp only [spec_DrawTakeStated.l0] at H
   by_cases c10 : x8_1 > 0
   ·rw [if_pos c10] at H
    have c10b0 : decide (0 < x8_1) = true := decide_eq_true c10
    clear c10
    obtain ⟨⟨t639, t640, t641, t642, t643, t644, t645, t646, t647⟩, A11, H⟩ := bA H
    dsimp only at H
    by_cases c12 : x7_1.length < 2513169434916
    ·rw [if_pos c12] at H
     have LMc12 := As_.mk c12
     clear c12
     obtain ⟨y648, hy648⟩ : ∃ y_ : List (S76), y_ = (x7_1 ++ [(⟨(⟨t639, t640, t641, t642, t643, t644⟩ : S55), t645⟩ : S76)]) := ⟨_, rfl⟩
     replace H : (spec_DrawTakeStated.l0 k1 t628 y648 (wrap64 (x8_1 - 1)) t624 t646 t647) = some (r1, r2, r3) := by first | (rw [hy648]; with_reducible exact H) | (have H2_ := (Option.bind_some _ _).symm.trans H; rw [hy648]; with_reducible exact H2_) | (have H2_ := (Option.bind_some _ _).symm.trans H; with_reducible exact H2_) | with_reducible exact H | (rw [hy648]; exact H) | exact H
     have Ny648 := As_.mk hy648
     clear hy648
     have H' := As_.mk H
     clear H
     go_wp2_with (first | ((with_reducible refine gate_callee (f := 102) rfl ?_); refine goesL_ (some 22) rfl rfl Try.func102 sqk rfl #[.pointer (some ⟨g627, 0, none⟩)] rfl sqm ?_; (with_reducible refine (spec_l8Stated.calls k1 g627 t624 x628001_1 x628002_1 t639 t640 t641 t642 t643 t644 t645 t646 t647 w _ ?side1 ?side2 A11.out).mono ?_); (case side1 => repeat (first | (with_reducible first | exact HI627.out | apply IsS125.alloc | apply IsS125.drewN | apply IsS125.drew | apply IsS125.set_1 | apply IsS125.set_2) | exact HI627.out)); (case side2 => exact z63_0); rintro e w13 ⟨rfl, hi, hb, hk⟩; refine ⟨_, rfl, ?_⟩; replace HO_6 := As_.mk (Kd.R_mono (Kd.R_keep (IsS125.apart (show IsS125 w _ g627 t624 x628001_1 x628002_1 from by repeat (first | (with_reducible first | exact HI627.out | apply IsS125.alloc | apply IsS125.drewN | apply IsS125.drew | apply IsS125.set_1 | apply IsS125.set_2) | exact HI627.out)) (sqq HO_6.out) (by decide)) hk (fun _ h => h.2)) (fun _ h => h.1)); replace HO_7 := As_.mk (Kd.R_mono (Kd.R_keep (IsS125.apart (show IsS125 w _ g627 t624 x628001_1 x628002_1 from by repeat (first | (with_reducible first | exact HI627.out | apply IsS125.alloc | apply IsS125.drewN | apply IsS125.drew | apply IsS125.set_1 | apply IsS125.set_2) | exact HI627.out)) (sqq HO_7.out) (by decide)) hk (fun _ h => h.2)) (fun _ h => h.1)); replace HB := As_.mk (hb); replace HI627 := As_.mk (hi); (try clear hb); (try clear hk); (try clear hi)) | ((with_reducible refine gate_builtin (b := .append) (xs := #[.tmp 20, .tmp 23]) rfl ?_); at_builtin; refine Kd.R_append k76 (w0 := w) w.heap.size rfl (.tmp 20) (.tmp 23) 34 76 (.agg #[(.int .i64 0), (.int .i64 0), (.int .i64 0), (.int .i64 0), (.int .i64 0), (.int .i64 0), (.int .i64 0)]) 56 rfl Try.underlying34 info76 rfl (by decide) (by omega) u7 x7_1 (⟨(⟨t639, t640, t641, t642, t643, t644⟩ : S55), t645⟩ : S76) [.int .i64 t639, .int .i64 t640, .int .i64 t641, .int .i64 t642, .int .i64 t643, .int .i64 t644, .int .i64 t645] (fun k_ => (w.heap.size ≤ k_)) (fun _ => False) rfl rfl ?aP (fun _ hk => hk.elim) ?aF ?aO ?aB ?aS ?aL ?_; (case aP => exact k76_mkM _ _ _ (⟨(⟨t639, t640, t641, t642, t643, t644⟩ : S55), t645⟩ : S76)); (case aB => exact z63_0); (case aF => exact (fun k_ hk => (Nat.le_trans (below_size z63_0) hk))); (case aO => exact (sqq HO_7.out)); (case aS => exact (below_size z63_0)); (case aL => have := LMc12.out; omega); intro v649 w14 ho hb hg hat; rw [← Ny648.out] at ho; replace HO_6 := As_.mk (Kd.R_over' (sqq HO_6.out) (Kd.R_typed (sqq HO_7.out)) (by decide) hg); replace HI627 := As_.mk (IsS125.grown z63_1 hg (IsS125.own_ne HI627.out HO_7.out (by decide))); replace HB := As_.mk (hb); have HO650 := As_.mk (ho); clear HO_7; clear ho hb hg hat))
     go_roundg k1
     case measure => have := HK1.out; omega
     case rel => exact ⟨(y648), (wrap64 (x8_1 - 1)), (t646), (t647), sqr, H', ⟨by have := HK1.out; omega⟩, ⟨by (with_reducible repeat (first | apply Kd.R_alloc | apply Kd.R_drewN | apply Kd.R_drew)); exact HO_6.out⟩, ⟨by (with_reducible repeat (first | apply Kd.R_alloc | apply Kd.R_drewN | apply Kd.R_drew)); exact HO650.out⟩, ⟨by repeat (first | (with_reducible first | exact HI627.out | apply IsS125.alloc | apply IsS125.drewN | apply IsS125.drew | apply IsS125.set_1 | apply IsS125.set_2) | exact HI627.out)⟩, ⟨by repeat (first | (with_reducible first | exact HB.out | apply bA_ | apply bN_ | apply bD_ | refine bS_ ?_ (IsS125.ge HI627.out)) | exact HB.out)⟩⟩
    ·rw [if_neg c12] at H
     exact absurd H (by simp)
   ·rw [if_neg c10] at H
    have c10b0 : decide (0 < x8_1) = false := decide_eq_false c10
    clear c10
    obtain ⟨t651, A15, H⟩ := bA H
    simp only [Option.some.injEq, Prod.mk.injEq] at H
    obtain ⟨rfl, rfl, rfl⟩ := H
    go_wp2_with (first | ((with_reducible refine gate_callee (f := 101) rfl ?_); refine goesL_ (some 25) rfl rfl Try.func101 sqk rfl #[] rfl sqm ?_; (with_reducible refine (spec_l8Issuers.calls  t651 _ A15.out).mono ?_); rintro e w16 ⟨v652, rfl, ho0, hb⟩; refine ⟨_, rfl, ?_⟩; have HO653 := As_.mk (Kd.N_lower (Kd.N_mono (ok' := fun k_ => (w.heap.size ≤ k_) ∧ some k_ ≠ (v629 : Value).ownBlock ∧ some k_ ≠ (u7 : Value).ownBlock ∧ k_ ≠ g627) ho0 (fun k_ hk_ => ⟨(Nat.le_trans (below_size z63_0) hk_), (Kd.fresh' (Kd.R_lt (sqq HO_6.out)) k_ hk_), (Kd.fresh' (Kd.R_lt (sqq HO_7.out)) k_ hk_), (IsS125.fresh z63_1 k_ hk_)⟩)) (below_size z63_0)); replace HO_6 := As_.mk (Kd.R_below (sqq HO_6.out) hb); replace HO_7 := As_.mk (Kd.R_below (sqq HO_7.out) hb); replace HB := As_.mk (below_step z63_0 hb); replace HI627 := As_.mk (IsS125.below z63_1 hb); (try clear hb); (try clear ho0)))
    go_ret3
    exact ⟨_, _, _, sqe, by (with_reducible repeat (first | apply Kd.N_alloc | apply Kd.N_drewN | apply Kd.N_drew)); exact Kd.N_mono HO653.out (fun _ hk => ⟨hk.1, ⟨hk.2.1, hk.2.2.1⟩⟩), by (with_reducible repeat (first | apply Kd.R_alloc | apply Kd.R_drewN | apply Kd.R_drew)); exact HO_6.out, by (with_reducible repeat (first | apply Kd.R_alloc | apply Kd.R_drewN | apply Kd.R_drew)); exact HO_7.out, by repeat (first | (with_reducible first | exact HB.out | apply bA_ | apply bN_ | apply bD_ | refine bS_ ?_ (IsS125.ge HI627.out)) | exact HB.out)⟩

end Go.Proofs.Ytabpgiebhgkfhaa.XFnIssuers
