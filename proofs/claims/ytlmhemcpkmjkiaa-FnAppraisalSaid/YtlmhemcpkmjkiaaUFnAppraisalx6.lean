/- Written by this session's own program (wip/xprint, which runs over the kit's print): what the functions that the law reaches come to, each proved; and the law's row. Conditions: none. -/
import Derived.Test.YtlmhemcpkmjkiaaUFnAppraisalSq
import Derived.Test.YtlmhemcpkmjkiaaUFnAppraisalx0
import Derived.Test.YtlmhemcpkmjkiaaUFnAppraisalx5
namespace Go.Proofs.Ytlmhemcpkmjkiaa.XFnAppraisal
open Go.RowKit Go.Proofs.YtlmhemcpkmjkiaaW.PrintWords Go.Proofs.YtlmhemcpkmjkiaaW.PrintLast Go.Proofs.YtlmhemcpkmjkiaaW.PrintMore Go.Proofs.YtlmhemcpkmjkiaaSq
attribute [local go_sem] max2_int min2_int max_two min_two max_three min_three max_four min_four   -- for this text's walks alone
set_option linter.unusedVariables false
set_option linter.unusedSimpArgs false

/-! ### spec_l13Allowed: function 116 -/
mutual
def spec_l13Allowed.l0 : Nat → Int → List Int → Int → Int → Int → List Int → List Int → List Int → Option (Int × List Int × List Int × List Int × Int × Int)
 | 0, _, _, _, _, _, _, _, _ => none
 | k + 1, x4, x1000, x1001, x1002, x203000, x203001, x203002, x203003 => if x4 < 6 then ((spec_l1Below.f x1000 x1001 x1002 5).bind fun bt203 => (if bt203.1 = 0 then (spec_l13Allowed.j1 k x4 bt203.1 (bt203.1 == 0) x1000 bt203.2.1 bt203.2.2 x203000 x203001 x203002 x203003) else (spec_l13Allowed.j1 k x4 bt203.1 (bt203.1 == 1) x1000 bt203.2.1 bt203.2.2 x203000 x203001 x203002 x203003))) else (some (x203000, x203001, x203002, x203003, x1001, x1002))
def spec_l13Allowed.j1 : Nat → Int → Int → Bool → List Int → Int → Int → Int → List Int → List Int → List Int → Option (Int × List Int × List Int × List Int × Int × Int)
 | 0, _, _, _, _, _, _, _, _, _, _ => none
 | k + 1, x4, x13, x14, x1000, x1001, x1002, x203000, x203001, x203002, x203003 => if x14 = true then (if x203001.length < 17592186044416 then (spec_l13Allowed.l0 k (wrap64 (x4 + 1)) x1000 x1001 x1002 x203000 (x203001 ++ [x4]) x203002 x203003) else (none)) else (if x13 = 2 then (if x203002.length < 17592186044416 then (spec_l13Allowed.l0 k (wrap64 (x4 + 1)) x1000 x1001 x1002 x203000 x203001 (x203002 ++ [x4]) x203003) else (none)) else (if x13 = 3 then (if x203003.length < 17592186044416 then (spec_l13Allowed.l0 k (wrap64 (x4 + 1)) x1000 x1001 x1002 x203000 x203001 x203002 (x203003 ++ [x4])) else (none)) else (spec_l13Allowed.l0 k (wrap64 (x4 + 1)) x1000 x1001 x1002 x203000 x203001 x203002 x203003)))
end
def spec_l13Allowed.f (k : Nat) (s0_0 : List Int) (s0_1 : Int) (s0_2 : Int) : Option (Int × List Int × List Int × List Int × Int × Int) := (spec_l1Below.f s0_0 s0_1 s0_2 4).bind fun bt199 => (spec_l13Allowed.l0 k 0 s0_0 bt199.2.1 bt199.2.2 bt199.1 ([] : List Int) ([] : List Int) ([] : List Int))
theorem z116_0 {Q : Prop} (g : Q := by repeat (first | (with_reducible first | exact HK.out | apply KeepBut.set_ | apply keep_drewN | apply keep_drew | apply keep_alloc | refine keep_far ?_ GW198.out _ | refine keep_far ?_ GW202.out _) | exact HK.out)) : Q := g
theorem z116_1 {Q : Prop} (g : Q := by repeat (first | (with_reducible first | exact HK.out | apply KeepBut.set_ | apply keep_drewN | apply keep_drew | apply keep_alloc | refine keep_far ?_ GW198.out _) | exact HK.out)) : Q := g
set_option maxHeartbeats 8000000 in
set_option maxRecDepth 100000 in
theorem spec_l13Allowed.calls (k : Nat) (g : Nat) (s0_0 : List Int) (s0_1 : Int) (s0_2 : Int) (r1 : Int) (r2 : List Int) (r3 : List Int) (r4 : List Int) (r5 : Int) (r6 : Int) (w0 w : World) (hI : IsS125 w0 w g s0_0 s0_1 s0_2) (hB : Below w0.heap.size w0 w) (h : spec_l13Allowed.f k s0_0 s0_1 s0_2 = some (r1, r2, r3, r4, r5, r6)) :
  Calls Try.prog 116 #[.pointer (some ⟨g, 0, none⟩)] w fun e w' => ∃ v1_ v2_ v3_ : Value, e = .returned (.agg #[.int .i64 r1, v1_, v2_, v3_]) ∧ Kd.R (Kd.int .i64) 3 w' w.heap.size (fun k_ => some k_ ≠ (v2_ : Value).ownBlock ∧ some k_ ≠ (v3_ : Value).ownBlock) v1_ r2 ∧ Kd.R (Kd.int .i64) 3 w' w.heap.size (fun k_ => some k_ ≠ (v1_ : Value).ownBlock ∧ some k_ ≠ (v3_ : Value).ownBlock) v2_ r3 ∧ Kd.R (Kd.int .i64) 3 w' w.heap.size (fun k_ => some k_ ≠ (v1_ : Value).ownBlock ∧ some k_ ≠ (v2_ : Value).ownBlock) v3_ r4 ∧ IsS125 w0 w' g s0_0 r5 r6 ∧ Below w0.heap.size w0 w' ∧ KeepBut w w' g none := by
 have hu33 := Try.underlying33
 have HI0 := Aside0.mk hI
 have HK := Aside0.mk (KeepBut.refl w g none)
 have HL := Aside0.mk hB.size
 clear hI
 have HW0 := Aside0.mk hB.size
 have HB := Aside0.mk hB
 clear hB
 have H : ((spec_l1Below.f s0_0 s0_1 s0_2 4).bind fun bt199 => (spec_l13Allowed.l0 k 0 s0_0 bt199.2.1 bt199.2.2 bt199.1 ([] : List Int) ([] : List Int) ([] : List Int))) = some (r1, r2, r3, r4, r5, r6) := h
 clear h
 obtain ⟨⟨t199, t200, t201⟩, A2, H⟩ := bA H
 dsimp only at H
 have H' := Aside0.mk H
 clear H
 go_enter Try.func116, Try.ntmps116
 go_wp2_with (first | ((with_reducible refine gate_dst (N := 2) rfl ?_); refine bx (N := 2) (cs := #[.int .i64 0, .slice none 0 0, .slice none 0 0, .slice none 0 0]) (t := 33) ?_; intro gb198 hg w3 hbox hb; replace HB := Aside0.mk (below_step sqj hb); have BK198 := Aside0.mk (hbox); have GW198 := Aside0.mk ((by rw [hg]; exact (keep_size (w := w) (g := g) (row := none) sqp) : w.heap.size ≤ gb198)); have GE198 := Aside0.mk ((Nat.le_trans HW0.out (by rw [hg]; exact (keep_size (w := w) (g := g) (row := none) sqp) : w.heap.size ≤ gb198) : w0.heap.size ≤ gb198)); replace HK := Aside0.mk (KeepBut.trans sqp (KeepBut.of_below hb g none) (.inl rfl)); have NB0_198 := Aside0.mk ((by rw [hg]; exact Nat.ne_of_lt (IsS125.lt (show IsS125 w0 _ g s0_0 s0_1 s0_2 from sqi)) : g ≠ gb198)); have NB198_0 := Aside0.mk ((by rw [hg]; exact Nat.ne_of_gt (IsS125.lt (show IsS125 w0 _ g s0_0 s0_1 s0_2 from sqi)) : gb198 ≠ g)); replace HI0 := Aside0.mk (IsS125.below sqi hb); clear hb hbox hg) | ((with_reducible refine gate_callee (f := 103) rfl ?_); refine goesL_ (some 6) rfl rfl Try.func103 sqk rfl #[.pointer (some ⟨g, 0, none⟩), .int .i64 4] rfl sqm ?_; (with_reducible refine (spec_l1Below.calls g s0_0 s0_1 s0_2 4 t199 t200 t201 w0 _ ?side1 ?side2 A2.out).mono ?_); (case side1 => exact sqi); (case side2 => exact sqj); rintro e w4 ⟨rfl, hi, hb, hk⟩; refine ⟨_, rfl, ?_⟩; replace BK198 := Aside0.mk (KeepBut.blk hk (g' := gb198) (o := .cells #[.int .i64 0, .slice none 0 0, .slice none 0 0, .slice none 0 0] 33 (0, 0)) (sqb BK198.out) NB198_0.out (by simp)); replace HK := Aside0.mk (KeepBut.trans z116_1 hk (.inl rfl)); replace HB := Aside0.mk (hb); replace HI0 := Aside0.mk (hi); (try clear hb); (try clear hk); (try clear hi)) | ((with_reducible refine gate_dst (N := 3) rfl ?_); refine bx (N := 3) (cs := #[.int .i64 0, .slice none 0 0, .slice none 0 0, .slice none 0 0]) (t := 33) ?_; intro gb202 hg w5 hbox hb; replace HB := Aside0.mk (below_step sqj hb); have BK202 := Aside0.mk (hbox); have GW202 := Aside0.mk ((by rw [hg]; exact (keep_size (w := w) (g := g) (row := none) z116_1) : w.heap.size ≤ gb202)); have GE202 := Aside0.mk ((Nat.le_trans HW0.out (by rw [hg]; exact (keep_size (w := w) (g := g) (row := none) z116_1) : w.heap.size ≤ gb202) : w0.heap.size ≤ gb202)); replace HK := Aside0.mk (KeepBut.trans z116_1 (KeepBut.of_below hb g none) (.inl rfl)); have NB198_202 := Aside0.mk ((by rw [hg]; exact Nat.ne_of_lt (blk_lt (bo BK198)) : gb198 ≠ gb202)); have NB202_198 := Aside0.mk ((by rw [hg]; exact Nat.ne_of_gt (blk_lt (bo BK198)) : gb202 ≠ gb198)); replace BK198 := Aside0.mk (blk_below (bo BK198) hb); have NB0_202 := Aside0.mk ((by rw [hg]; exact Nat.ne_of_lt (IsS125.lt (show IsS125 w0 _ g s0_0 t200 t201 from sqi)) : g ≠ gb202)); have NB202_0 := Aside0.mk ((by rw [hg]; exact Nat.ne_of_gt (IsS125.lt (show IsS125 w0 _ g s0_0 t200 t201 from sqi)) : gb202 ≠ g)); replace HI0 := Aside0.mk (IsS125.below sqi hb); clear hb hbox hg; have hnb6 := NB202_198.out; have hnc6 := NB198_202.out; have hnb7 := NB202_0.out; have hnc7 := NB0_202.out; obtain ⟨hcz8_0, hcz8_1, hcz8_2, hcz8_3, hfz8_0, hfz8_1, hfz8_2, hfz8_3⟩ := sd4 BK202.out))
 go_loopg [4] k (fun kq v4 w' => ∃ (x4_1 : Int) (x1001_1 : Int) (x1002_1 : Int) (x203001_1 : List Int) (x203002_1 : List Int) (x203003_1 : List Int) (u203001 : Value) (u203002 : Value) (u203003 : Value), v4 = .int .i64 x4_1 ∧ Aside0 (spec_l13Allowed.l0 kq x4_1 s0_0 x1001_1 x1002_1 t199 x203001_1 x203002_1 x203003_1 = some (r1, r2, r3, r4, r5, r6)) ∧ Aside0 (kq ≤ k) ∧ Aside0 (Kd.R (Kd.int .i64) 3 w' w.heap.size (fun k_ => some k_ ≠ (u203002 : Value).ownBlock ∧ some k_ ≠ (u203003 : Value).ownBlock) u203001 x203001_1) ∧ Aside0 (Kd.R (Kd.int .i64) 3 w' w.heap.size (fun k_ => some k_ ≠ (u203001 : Value).ownBlock ∧ some k_ ≠ (u203003 : Value).ownBlock) u203002 x203002_1) ∧ Aside0 (Kd.R (Kd.int .i64) 3 w' w.heap.size (fun k_ => some k_ ≠ (u203001 : Value).ownBlock ∧ some k_ ≠ (u203002 : Value).ownBlock) u203003 x203003_1) ∧ Aside0 (w'.heap[gb198]? = some (.cells #[.int .i64 0, (.slice none 0 0), (.slice none 0 0), (.slice none 0 0)] 33 (0, 0))) ∧ Aside0 (w'.heap[gb202]? = some (.cells #[.int .i64 t199, u203001, u203002, u203003] 33 (0, 0))) ∧ Aside0 (IsS125 w0 w' g s0_0 x1001_1 x1002_1) ∧ Aside0 (KeepBut w w' g none) ∧ Aside0 (Below w0.heap.size w0 w'))
 case atStart => exact ⟨(0), (t200), (t201), (([] : List Int)), (([] : List Int)), (([] : List Int)), (.slice none 0 0), (.slice none 0 0), (.slice none 0 0), sqr, H', ⟨Nat.le_refl _⟩, ⟨by first | exact Kd.R_nil _ _ _ _ _ | exact Kd.N_nil _ _ _ _ _ | exact Kd.V_nil _ _ _ _ _ | exact Kd.Q_nil _ _ _ _ _ | exact Kd.S_nil _ _ _ _ _⟩, ⟨by first | exact Kd.R_nil _ _ _ _ _ | exact Kd.N_nil _ _ _ _ _ | exact Kd.V_nil _ _ _ _ _ | exact Kd.Q_nil _ _ _ _ _ | exact Kd.S_nil _ _ _ _ _⟩, ⟨by first | exact Kd.R_nil _ _ _ _ _ | exact Kd.N_nil _ _ _ _ _ | exact Kd.V_nil _ _ _ _ _ | exact Kd.Q_nil _ _ _ _ _ | exact Kd.S_nil _ _ _ _ _⟩, ⟨bp BK198⟩, ⟨bp BK202⟩, ⟨sqi⟩, ⟨by repeat (first | (with_reducible first | exact HK.out | apply KeepBut.set_ | apply keep_drewN | apply keep_drew | apply keep_alloc | refine keep_far ?_ GW198.out _ | refine keep_far ?_ GW202.out _) | exact HK.out)⟩, ⟨sqj⟩⟩
 case round =>
  clear H'; try clear c1; try clear p2; try clear c6; try clear c7; try clear hcz8_0; try clear hcz8_1; try clear hcz8_2; try clear hcz8_3; try clear hfz8_0; try clear hfz8_1; try clear hfz8_2; try clear hfz8_3
  obtain ⟨x4_1, x1001_1, x1002_1, x203001_1, x203002_1, x203003_1, u203001, u203002, u203003, rfl, HA, HK1, HO_203001, HO_203002, HO_203003, BK198, BK202, HI0, HK, HB⟩ := hrel
  cases gk with
  | zero => exact absurd HA.out (by simp [spec_l13Allowed.l0])
  | succ k1 =>
   have H := HA.out
   clear HA
   simp only [spec_l13Allowed.l0] at H
   by_cases c9 : x4_1 < 6
   ·rw [if_pos c9] at H
    have c9b0 : decide (x4_1 < 6) = true := decide_eq_true c9
    clear c9
    obtain ⟨⟨t203, t204, t205⟩, A10, H⟩ := bA H
    dsimp only at H
    have HC11 := Aside0.mk H
    clear H
    go_upto_if 14 with (first | ((with_reducible refine gate_callee (f := 103) rfl ?_); refine goesL_ (some 13) rfl rfl Try.func103 sqk rfl #[.pointer (some ⟨g, 0, none⟩), .int .i64 5] rfl sqm ?_; (with_reducible refine (spec_l1Below.calls g s0_0 x1001_1 x1002_1 5 t203 t204 t205 w0 _ ?side1 ?side2 A10.out).mono ?_); (case side1 => exact sqi); (case side2 => exact sqj); rintro e w12 ⟨rfl, hi, hb, hk⟩; refine ⟨_, rfl, ?_⟩; replace HO_203001 := Aside0.mk (Kd.R_mono (Kd.R_keep (IsS125.apart (show IsS125 w0 _ g s0_0 x1001_1 x1002_1 from sqi) (sqq HO_203001.out) (by decide)) hk (fun _ h => h.2)) (fun _ h => h.1)); replace HO_203002 := Aside0.mk (Kd.R_mono (Kd.R_keep (IsS125.apart (show IsS125 w0 _ g s0_0 x1001_1 x1002_1 from sqi) (sqq HO_203002.out) (by decide)) hk (fun _ h => h.2)) (fun _ h => h.1)); replace HO_203003 := Aside0.mk (Kd.R_mono (Kd.R_keep (IsS125.apart (show IsS125 w0 _ g s0_0 x1001_1 x1002_1 from sqi) (sqq HO_203003.out) (by decide)) hk (fun _ h => h.2)) (fun _ h => h.1)); replace BK198 := Aside0.mk (KeepBut.blk hk (g' := gb198) (o := .cells #[.int .i64 0, .slice none 0 0, .slice none 0 0, .slice none 0 0] 33 (0, 0)) (sqb BK198.out) NB198_0.out (by simp)); replace BK202 := Aside0.mk (KeepBut.blk hk (g' := gb202) (o := .cells #[.int .i64 t199, u203001, u203002, u203003] 33 (0, 0)) (sqb BK202.out) NB202_0.out (by simp)); replace HK := Aside0.mk (KeepBut.trans z116_0 hk (.inl rfl)); replace HB := Aside0.mk (hb); replace HI0 := Aside0.mk (hi); (try clear hb); (try clear hk); (try clear hi)))
    (try simp only [Act.put, List.setIfInBounds_toArray, List.set_cons_zero, List.set_cons_succ])
    go_cut [14] (fun v14 wc => ∃ (kq : Nat) (x14_10 : Bool), v14 = .bool x14_10 ∧ Aside0 (spec_l13Allowed.j1 kq x4_1 t203 x14_10 s0_0 t204 t205 t199 x203001_1 x203002_1 x203003_1 = some (r1, r2, r3, r4, r5, r6)) ∧ Aside0 (kq ≤ k1) ∧ Aside0 (Kd.R (Kd.int .i64) 3 wc w.heap.size (fun k_ => some k_ ≠ (u203002 : Value).ownBlock ∧ some k_ ≠ (u203003 : Value).ownBlock) u203001 x203001_1) ∧ Aside0 (Kd.R (Kd.int .i64) 3 wc w.heap.size (fun k_ => some k_ ≠ (u203001 : Value).ownBlock ∧ some k_ ≠ (u203003 : Value).ownBlock) u203002 x203002_1) ∧ Aside0 (Kd.R (Kd.int .i64) 3 wc w.heap.size (fun k_ => some k_ ≠ (u203001 : Value).ownBlock ∧ some k_ ≠ (u203002 : Value).ownBlock) u203003 x203003_1) ∧ Aside0 (wc.heap[gb198]? = some (.cells #[.int .i64 0, (.slice none 0 0), (.slice none 0 0), (.slice none 0 0)] 33 (0, 0))) ∧ Aside0 (wc.heap[gb202]? = some (.cells #[.int .i64 t199, u203001, u203002, u203003] 33 (0, 0))) ∧ Aside0 (IsS125 w0 wc g s0_0 t204 t205) ∧ Aside0 (KeepBut w wc g none) ∧ Aside0 (Below w0.heap.size w0 wc))
    case first =>
     have H := HC11.out
     clear HC11
     by_cases c13 : t203 = 0
     ·rw [if_pos c13] at H
      have c13b0 : (t203 == 0) = true := beq_iff_eq.mpr c13
      have c13b1 : (t203 != 0) = false := bne_eq_false_iff_eq.mpr c13
      clear c13
      (first | rw [c13b0] | (simp only [i64_w, i32_w]; rw [c13b0]) | skip)
      have H' := Aside0.mk H
      clear H
      go_wp2
      go_meet
      case rel => exact ⟨_, ((t203 == 0)), sqr, H', ⟨by have := HK1.out; first | omega | exact Nat.le_refl _⟩, ⟨by (with_reducible repeat (first | apply Kd.R_alloc | apply Kd.R_drewN | apply Kd.R_drew)); exact HO_203001.out⟩, ⟨by (with_reducible repeat (first | apply Kd.R_alloc | apply Kd.R_drewN | apply Kd.R_drew)); exact HO_203002.out⟩, ⟨by (with_reducible repeat (first | apply Kd.R_alloc | apply Kd.R_drewN | apply Kd.R_drew)); exact HO_203003.out⟩, ⟨sqb BK198.out⟩, ⟨sqb BK202.out⟩, ⟨sqi⟩, ⟨by repeat (first | (with_reducible first | exact HK.out | apply KeepBut.set_ | apply keep_drewN | apply keep_drew | apply keep_alloc | refine keep_far ?_ GW198.out _ | refine keep_far ?_ GW202.out _) | exact HK.out)⟩, ⟨sqj⟩⟩
     ·rw [if_neg c13] at H
      have c13b0 : (t203 == 0) = false := beq_eq_false_iff_ne.mpr c13
      have c13b1 : (t203 != 0) = true := bne_iff_ne.mpr c13
      (first | rw [c13b0] | (simp only [i64_w, i32_w]; rw [c13b0]) | skip)
      have H' := Aside0.mk H
      clear H
      go_wp2
      go_meet
      case rel => exact ⟨_, ((t203 == 1)), sqr, H', ⟨by have := HK1.out; first | omega | exact Nat.le_refl _⟩, ⟨by (with_reducible repeat (first | apply Kd.R_alloc | apply Kd.R_drewN | apply Kd.R_drew)); exact HO_203001.out⟩, ⟨by (with_reducible repeat (first | apply Kd.R_alloc | apply Kd.R_drewN | apply Kd.R_drew)); exact HO_203002.out⟩, ⟨by (with_reducible repeat (first | apply Kd.R_alloc | apply Kd.R_drewN | apply Kd.R_drew)); exact HO_203003.out⟩, ⟨sqb BK198.out⟩, ⟨sqb BK202.out⟩, ⟨sqi⟩, ⟨by repeat (first | (with_reducible first | exact HK.out | apply KeepBut.set_ | apply keep_drewN | apply keep_drew | apply keep_alloc | refine keep_far ?_ GW198.out _ | refine keep_far ?_ GW202.out _) | exact HK.out)⟩, ⟨sqj⟩⟩
    case rest =>
     clear HC11; try clear c1; try clear p2; try clear c6; try clear c7; try clear c9; try clear c9b0; try clear c10; try clear c11; try clear c13; try clear c13b0; try clear c13b1; try clear hcz8_0; try clear hcz8_1; try clear hcz8_2; try clear hcz8_3; try clear hfz8_0; try clear hfz8_1; try clear hfz8_2; try clear hfz8_3; try clear p2
     obtain ⟨kq, x14_10, rfl, HA, HJ10, HO_203001, HO_203002, HO_203003, BK198, BK202, HI0, HK, HB⟩ := hcut
     cases kq with
     | zero => exact absurd HA.out (by simp [spec_l13Allowed.j1])
     | succ kj10 =>
      have H := HA.out
      clear HA
      simp only [spec_l13Allowed.j1] at H
      by_cases c14 : x14_10 = true
      ·subst c14
       replace H := iT H
       by_cases c15 : x203001_1.length < 17592186044416
       ·rw [if_pos c15] at H
        have LMc15 := Aside0.mk c15
        clear c15
        obtain ⟨y206, hy206⟩ : ∃ y_ : List Int, y_ = (x203001_1 ++ [x4_1]) := ⟨_, rfl⟩
        replace H : (spec_l13Allowed.l0 kj10 (wrap64 (x4_1 + 1)) s0_0 t204 t205 t199 y206 x203002_1 x203003_1) = some (r1, r2, r3, r4, r5, r6) := by first | (rw [hy206]; with_reducible exact H) | (have H2_ := (Option.bind_some _ _).symm.trans H; rw [hy206]; with_reducible exact H2_) | (have H2_ := (Option.bind_some _ _).symm.trans H; with_reducible exact H2_) | with_reducible exact H | (rw [hy206]; exact H) | exact H
        have Ny206 := Aside0.mk hy206
        clear hy206
        have H' := Aside0.mk H
        clear H
        have hnb16 := NB202_198.out
        have hnc16 := NB198_202.out
        have hnb17 := NB202_0.out
        have hnc17 := NB0_202.out
        obtain ⟨hcz18_0, hcz18_1, hcz18_2, hcz18_3, hfz18_0, hfz18_1, hfz18_2, hfz18_3⟩ := sd4 BK202.out
        go_wp2_with (first | ((with_reducible refine gate_builtin (b := .append) (xs := #[.tmp 18, .tmp 20]) rfl ?_); at_builtin; refine Kd.R_append (Kd.int .i64) w.heap.size rfl (.tmp 18) (.tmp 20) 28 3 (.int .i64 0) 8 rfl Try.underlying28 info3 rfl (by decide) (by omega) u203001 x203001_1 x4_1 [.int .i64 x4_1] (fun k_ => some k_ ≠ (u203002 : Value).ownBlock ∧ some k_ ≠ (u203003 : Value).ownBlock) (fun _ => False) rfl rfl ?aP (fun _ hk => hk.elim) ?aF ?aO (Below.refl _ _) ?aS ?aL ?_; (case aP => exact rfl); (case aF => exact (fun k_ hk => ⟨Kd.fresh' (Kd.R_lt (sqq HO_203002.out)) k_ hk, Kd.fresh' (Kd.R_lt (sqq HO_203003.out)) k_ hk⟩)); (case aO => exact (sqq HO_203001.out)); (case aS => exact (keep_size (w := w) (g := g) (row := none) z116_0)); (case aL => have := LMc15.out; omega); intro v207 w19 ho hb hg hat; rw [← Ny206.out] at ho; replace HO_203002 := Aside0.mk (Kd.R_after (ok := (fun k_ => some k_ ≠ (u203003 : Value).ownBlock)) (by (with_reducible repeat (first | apply Kd.R_alloc | apply Kd.R_drewN | apply Kd.R_drew)); exact Kd.R_mono HO_203002.out (fun _ hk => ⟨hk.2, hk.1⟩)) hg hat); replace HO_203003 := Aside0.mk (Kd.R_after (ok := (fun k_ => some k_ ≠ (u203002 : Value).ownBlock)) (by (with_reducible repeat (first | apply Kd.R_alloc | apply Kd.R_drewN | apply Kd.R_drew)); exact Kd.R_mono HO_203003.out (fun _ hk => ⟨hk.2, hk.1⟩)) hg hat); replace BK198 := Aside0.mk (blk_grown (bo BK198) hg (Kd.R_ne HO_203001.out BK198.out (by decide))); replace BK202 := Aside0.mk (blk_grown (bo BK202) hg (Kd.R_ne HO_203001.out BK202.out (by decide))); replace HB := Aside0.mk (below_weaken sqj HL.out hb); replace HI0 := Aside0.mk (IsS125.grown sqi hg (IsS125.own_ne HI0.out HO_203001.out (by decide))); replace HK := Aside0.mk (KeepBut.trans z116_0 (KeepBut.of_grown hg g) (Kd.R_base2 HO_203001.out)); have HO208 := Aside0.mk (ho); clear HO_203001; clear ho hb hg hat; obtain ⟨Ao20, co20, eo20⟩ := Kd.R_slice HO208.out; subst eo20; obtain ⟨hcz21_0, hcz21_1, hcz21_2, hcz21_3, hfz21_0, hfz21_1, hfz21_2, hfz21_3⟩ := sd4 BK202.out))
        go_roundg kj10
        case measure => have := HK1.out; have := HJ10.out; omega
        case rel => exact ⟨(wrap64 (x4_1 + 1)), (t204), (t205), (y206), (x203002_1), (x203003_1), (.slice Ao20 y206.length co20), (u203002), (u203003), sqr, H', ⟨by have := HK1.out; have := HJ10.out; omega⟩, ⟨by (with_reducible repeat (first | apply Kd.R_alloc | apply Kd.R_drewN | apply Kd.R_drew)); exact Kd.R_mono (Kd.R_far (p := ⟨gb202, 1, none⟩) (Kd.R_types HO208.out BK202.out (by decide)) (fun _ hk => hk.2) (.slice Ao20 y206.length co20)) (fun _ hk => ⟨hk.1.1, hk.1.2⟩)⟩, ⟨by (with_reducible repeat (first | apply Kd.R_alloc | apply Kd.R_drewN | apply Kd.R_drew)); exact Kd.R_mono (Kd.R_far (p := ⟨gb202, 1, none⟩) (Kd.R_types HO_203002.out BK202.out (by decide)) (fun _ hk => hk.2) (.slice Ao20 y206.length co20)) (fun _ hk => ⟨hk.1.2, hk.1.1⟩)⟩, ⟨by (with_reducible repeat (first | apply Kd.R_alloc | apply Kd.R_drewN | apply Kd.R_drew)); exact Kd.R_mono (Kd.R_far (p := ⟨gb202, 1, none⟩) (Kd.R_types HO_203003.out BK202.out (by decide)) (fun _ hk => hk.2) (.slice Ao20 y206.length co20)) (fun _ hk => ⟨hk.1.2, hk.1.1⟩)⟩, ⟨bp BK198⟩, ⟨bp BK202⟩, ⟨sqi⟩, ⟨by repeat (first | (with_reducible first | exact HK.out | apply KeepBut.set_ | apply keep_drewN | apply keep_drew | apply keep_alloc | refine keep_far ?_ GW198.out _ | refine keep_far ?_ GW202.out _) | exact HK.out)⟩, ⟨sqj⟩⟩
       ·rw [if_neg c15] at H
        exact absurd H (by simp)
      ·replace c14 := Bool.eq_false_iff.mpr c14
       subst c14
       replace H := iF H
       by_cases c22 : t203 = 2
       ·rw [if_pos c22] at H
        have c22b0 : (t203 == 2) = true := beq_iff_eq.mpr c22
        have c22b1 : (t203 != 2) = false := bne_eq_false_iff_eq.mpr c22
        clear c22
        by_cases c23 : x203002_1.length < 17592186044416
        ·rw [if_pos c23] at H
         have LMc23 := Aside0.mk c23
         clear c23
         obtain ⟨y209, hy209⟩ : ∃ y_ : List Int, y_ = (x203002_1 ++ [x4_1]) := ⟨_, rfl⟩
         replace H : (spec_l13Allowed.l0 kj10 (wrap64 (x4_1 + 1)) s0_0 t204 t205 t199 x203001_1 y209 x203003_1) = some (r1, r2, r3, r4, r5, r6) := by first | (rw [hy209]; with_reducible exact H) | (have H2_ := (Option.bind_some _ _).symm.trans H; rw [hy209]; with_reducible exact H2_) | (have H2_ := (Option.bind_some _ _).symm.trans H; with_reducible exact H2_) | with_reducible exact H | (rw [hy209]; exact H) | exact H
         have Ny209 := Aside0.mk hy209
         clear hy209
         have H' := Aside0.mk H
         clear H
         have hnb24 := NB202_198.out
         have hnc24 := NB198_202.out
         have hnb25 := NB202_0.out
         have hnc25 := NB0_202.out
         obtain ⟨hcz26_0, hcz26_1, hcz26_2, hcz26_3, hfz26_0, hfz26_1, hfz26_2, hfz26_3⟩ := sd4 BK202.out
         go_wp2_with (first | ((with_reducible refine gate_builtin (b := .append) (xs := #[.tmp 26, .tmp 28]) rfl ?_); at_builtin; refine Kd.R_append (Kd.int .i64) w.heap.size rfl (.tmp 26) (.tmp 28) 28 3 (.int .i64 0) 8 rfl Try.underlying28 info3 rfl (by decide) (by omega) u203002 x203002_1 x4_1 [.int .i64 x4_1] (fun k_ => some k_ ≠ (u203001 : Value).ownBlock ∧ some k_ ≠ (u203003 : Value).ownBlock) (fun _ => False) rfl rfl ?aP (fun _ hk => hk.elim) ?aF ?aO (Below.refl _ _) ?aS ?aL ?_; (case aP => exact rfl); (case aF => exact (fun k_ hk => ⟨Kd.fresh' (Kd.R_lt (sqq HO_203001.out)) k_ hk, Kd.fresh' (Kd.R_lt (sqq HO_203003.out)) k_ hk⟩)); (case aO => exact (sqq HO_203002.out)); (case aS => exact (keep_size (w := w) (g := g) (row := none) z116_0)); (case aL => have := LMc23.out; omega); intro v210 w27 ho hb hg hat; rw [← Ny209.out] at ho; replace HO_203001 := Aside0.mk (Kd.R_after (ok := (fun k_ => some k_ ≠ (u203003 : Value).ownBlock)) (by (with_reducible repeat (first | apply Kd.R_alloc | apply Kd.R_drewN | apply Kd.R_drew)); exact Kd.R_mono HO_203001.out (fun _ hk => ⟨hk.2, hk.1⟩)) hg hat); replace HO_203003 := Aside0.mk (Kd.R_after (ok := (fun k_ => some k_ ≠ (u203001 : Value).ownBlock)) (sqq HO_203003.out) hg hat); replace BK198 := Aside0.mk (blk_grown (bo BK198) hg (Kd.R_ne HO_203002.out BK198.out (by decide))); replace BK202 := Aside0.mk (blk_grown (bo BK202) hg (Kd.R_ne HO_203002.out BK202.out (by decide))); replace HB := Aside0.mk (below_weaken sqj HL.out hb); replace HI0 := Aside0.mk (IsS125.grown sqi hg (IsS125.own_ne HI0.out HO_203002.out (by decide))); replace HK := Aside0.mk (KeepBut.trans z116_0 (KeepBut.of_grown hg g) (Kd.R_base2 HO_203002.out)); have HO211 := Aside0.mk (ho); clear HO_203002; clear ho hb hg hat; obtain ⟨Ao28, co28, eo28⟩ := Kd.R_slice HO211.out; subst eo28; obtain ⟨hcz29_0, hcz29_1, hcz29_2, hcz29_3, hfz29_0, hfz29_1, hfz29_2, hfz29_3⟩ := sd4 BK202.out))
         go_roundg kj10
         case measure => have := HK1.out; have := HJ10.out; omega
         case rel => exact ⟨(wrap64 (x4_1 + 1)), (t204), (t205), (x203001_1), (y209), (x203003_1), (u203001), (.slice Ao28 y209.length co28), (u203003), sqr, H', ⟨by have := HK1.out; have := HJ10.out; omega⟩, ⟨by (with_reducible repeat (first | apply Kd.R_alloc | apply Kd.R_drewN | apply Kd.R_drew)); exact Kd.R_mono (Kd.R_far (p := ⟨gb202, 2, none⟩) (Kd.R_types HO_203001.out BK202.out (by decide)) (fun _ hk => hk.2) (.slice Ao28 y209.length co28)) (fun _ hk => ⟨hk.1.2, hk.1.1⟩)⟩, ⟨by (with_reducible repeat (first | apply Kd.R_alloc | apply Kd.R_drewN | apply Kd.R_drew)); exact Kd.R_mono (Kd.R_far (p := ⟨gb202, 2, none⟩) (Kd.R_types HO211.out BK202.out (by decide)) (fun _ hk => hk.2) (.slice Ao28 y209.length co28)) (fun _ hk => ⟨hk.1.1, hk.1.2⟩)⟩, ⟨by (with_reducible repeat (first | apply Kd.R_alloc | apply Kd.R_drewN | apply Kd.R_drew)); exact Kd.R_mono (Kd.R_far (p := ⟨gb202, 2, none⟩) (Kd.R_types HO_203003.out BK202.out (by decide)) (fun _ hk => hk.2) (.slice Ao28 y209.length co28)) (fun _ hk => ⟨hk.1.1, hk.1.2⟩)⟩, ⟨bp BK198⟩, ⟨bp BK202⟩, ⟨sqi⟩, ⟨by repeat (first | (with_reducible first | exact HK.out | apply KeepBut.set_ | apply keep_drewN | apply keep_drew | apply keep_alloc | refine keep_far ?_ GW198.out _ | refine keep_far ?_ GW202.out _) | exact HK.out)⟩, ⟨sqj⟩⟩
        ·rw [if_neg c23] at H
         exact absurd H (by simp)
       ·rw [if_neg c22] at H
        have c22b0 : (t203 == 2) = false := beq_eq_false_iff_ne.mpr c22
        have c22b1 : (t203 != 2) = true := bne_iff_ne.mpr c22
        by_cases c30 : t203 = 3
        ·rw [if_pos c30] at H
         have c30b0 : (t203 == 3) = true := beq_iff_eq.mpr c30
         have c30b1 : (t203 != 3) = false := bne_eq_false_iff_eq.mpr c30
         clear c30
         by_cases c31 : x203003_1.length < 17592186044416
         ·rw [if_pos c31] at H
          have LMc31 := Aside0.mk c31
          clear c31
          obtain ⟨y212, hy212⟩ : ∃ y_ : List Int, y_ = (x203003_1 ++ [x4_1]) := ⟨_, rfl⟩
          replace H : (spec_l13Allowed.l0 kj10 (wrap64 (x4_1 + 1)) s0_0 t204 t205 t199 x203001_1 x203002_1 y212) = some (r1, r2, r3, r4, r5, r6) := by first | (rw [hy212]; with_reducible exact H) | (have H2_ := (Option.bind_some _ _).symm.trans H; rw [hy212]; with_reducible exact H2_) | (have H2_ := (Option.bind_some _ _).symm.trans H; with_reducible exact H2_) | with_reducible exact H | (rw [hy212]; exact H) | exact H
          have Ny212 := Aside0.mk hy212
          clear hy212
          have H' := Aside0.mk H
          clear H
          have hnb32 := NB202_198.out
          have hnc32 := NB198_202.out
          have hnb33 := NB202_0.out
          have hnc33 := NB0_202.out
          obtain ⟨hcz34_0, hcz34_1, hcz34_2, hcz34_3, hfz34_0, hfz34_1, hfz34_2, hfz34_3⟩ := sd4 BK202.out
          go_wp2_with (first | ((with_reducible refine gate_builtin (b := .append) (xs := #[.tmp 34, .tmp 36]) rfl ?_); at_builtin; refine Kd.R_append (Kd.int .i64) w.heap.size rfl (.tmp 34) (.tmp 36) 28 3 (.int .i64 0) 8 rfl Try.underlying28 info3 rfl (by decide) (by omega) u203003 x203003_1 x4_1 [.int .i64 x4_1] (fun k_ => some k_ ≠ (u203001 : Value).ownBlock ∧ some k_ ≠ (u203002 : Value).ownBlock) (fun _ => False) rfl rfl ?aP (fun _ hk => hk.elim) ?aF ?aO (Below.refl _ _) ?aS ?aL ?_; (case aP => exact rfl); (case aF => exact (fun k_ hk => ⟨Kd.fresh' (Kd.R_lt (sqq HO_203001.out)) k_ hk, Kd.fresh' (Kd.R_lt (sqq HO_203002.out)) k_ hk⟩)); (case aO => exact (sqq HO_203003.out)); (case aS => exact (keep_size (w := w) (g := g) (row := none) z116_0)); (case aL => have := LMc31.out; omega); intro v213 w35 ho hb hg hat; rw [← Ny212.out] at ho; replace HO_203001 := Aside0.mk (Kd.R_after (ok := (fun k_ => some k_ ≠ (u203002 : Value).ownBlock)) (sqq HO_203001.out) hg hat); replace HO_203002 := Aside0.mk (Kd.R_after (ok := (fun k_ => some k_ ≠ (u203001 : Value).ownBlock)) (sqq HO_203002.out) hg hat); replace BK198 := Aside0.mk (blk_grown (bo BK198) hg (Kd.R_ne HO_203003.out BK198.out (by decide))); replace BK202 := Aside0.mk (blk_grown (bo BK202) hg (Kd.R_ne HO_203003.out BK202.out (by decide))); replace HB := Aside0.mk (below_weaken sqj HL.out hb); replace HI0 := Aside0.mk (IsS125.grown sqi hg (IsS125.own_ne HI0.out HO_203003.out (by decide))); replace HK := Aside0.mk (KeepBut.trans z116_0 (KeepBut.of_grown hg g) (Kd.R_base2 HO_203003.out)); have HO214 := Aside0.mk (ho); clear HO_203003; clear ho hb hg hat; obtain ⟨Ao36, co36, eo36⟩ := Kd.R_slice HO214.out; subst eo36; obtain ⟨hcz37_0, hcz37_1, hcz37_2, hcz37_3, hfz37_0, hfz37_1, hfz37_2, hfz37_3⟩ := sd4 BK202.out))
          go_roundg kj10
          case measure => have := HK1.out; have := HJ10.out; omega
          case rel => exact ⟨(wrap64 (x4_1 + 1)), (t204), (t205), (x203001_1), (x203002_1), (y212), (u203001), (u203002), (.slice Ao36 y212.length co36), sqr, H', ⟨by have := HK1.out; have := HJ10.out; omega⟩, ⟨by (with_reducible repeat (first | apply Kd.R_alloc | apply Kd.R_drewN | apply Kd.R_drew)); exact Kd.R_mono (Kd.R_far (p := ⟨gb202, 3, none⟩) (Kd.R_types HO_203001.out BK202.out (by decide)) (fun _ hk => hk.2) (.slice Ao36 y212.length co36)) (fun _ hk => ⟨hk.1.1, hk.1.2⟩)⟩, ⟨by (with_reducible repeat (first | apply Kd.R_alloc | apply Kd.R_drewN | apply Kd.R_drew)); exact Kd.R_mono (Kd.R_far (p := ⟨gb202, 3, none⟩) (Kd.R_types HO_203002.out BK202.out (by decide)) (fun _ hk => hk.2) (.slice Ao36 y212.length co36)) (fun _ hk => ⟨hk.1.1, hk.1.2⟩)⟩, ⟨by (with_reducible repeat (first | apply Kd.R_alloc | apply Kd.R_drewN | apply Kd.R_drew)); exact Kd.R_mono (Kd.R_far (p := ⟨gb202, 3, none⟩) (Kd.R_types HO214.out BK202.out (by decide)) (fun _ hk => hk.2) (.slice Ao36 y212.length co36)) (fun _ hk => ⟨hk.1.1, hk.1.2⟩)⟩, ⟨bp BK198⟩, ⟨bp BK202⟩, ⟨sqi⟩, ⟨by repeat (first | (with_reducible first | exact HK.out | apply KeepBut.set_ | apply keep_drewN | apply keep_drew | apply keep_alloc | refine keep_far ?_ GW198.out _ | refine keep_far ?_ GW202.out _) | exact HK.out)⟩, ⟨sqj⟩⟩
         ·rw [if_neg c31] at H
          exact absurd H (by simp)
        ·rw [if_neg c30] at H
         have c30b0 : (t203 == 3) = false := beq_eq_false_iff_ne.mpr c30
         have c30b1 : (t203 != 3) = true := bne_iff_ne.mpr c30
         have H' := Aside0.mk H
         clear H
         go_wp2
         go_roundg kj10
         case measure => have := HK1.out; have := HJ10.out; omega
         case rel => exact ⟨(wrap64 (x4_1 + 1)), (t204), (t205), (x203001_1), (x203002_1), (x203003_1), (u203001), (u203002), (u203003), sqr, H', ⟨by have := HK1.out; have := HJ10.out; omega⟩, ⟨by (with_reducible repeat (first | apply Kd.R_alloc | apply Kd.R_drewN | apply Kd.R_drew)); exact HO_203001.out⟩, ⟨by (with_reducible repeat (first | apply Kd.R_alloc | apply Kd.R_drewN | apply Kd.R_drew)); exact HO_203002.out⟩, ⟨by (with_reducible repeat (first | apply Kd.R_alloc | apply Kd.R_drewN | apply Kd.R_drew)); exact HO_203003.out⟩, ⟨sqb BK198.out⟩, ⟨sqb BK202.out⟩, ⟨sqi⟩, ⟨by repeat (first | (with_reducible first | exact HK.out | apply KeepBut.set_ | apply keep_drewN | apply keep_drew | apply keep_alloc | refine keep_far ?_ GW198.out _ | refine keep_far ?_ GW202.out _) | exact HK.out)⟩, ⟨sqj⟩⟩
   ·rw [if_neg c9] at H
    have c9b0 : decide (x4_1 < 6) = false := decide_eq_false c9
    clear c9
    simp only [Option.some.injEq, Prod.mk.injEq] at H
    obtain ⟨rfl, rfl, rfl, rfl, rfl, rfl⟩ := H
    have hnb38 := NB202_198.out
    have hnc38 := NB198_202.out
    have hnb39 := NB202_0.out
    have hnc39 := NB0_202.out
    obtain ⟨hcz40_0, hcz40_1, hcz40_2, hcz40_3, hfz40_0, hfz40_1, hfz40_2, hfz40_3⟩ := sd4 BK202.out
    have hnb41 := NB198_0.out
    have hnc41 := NB0_198.out
    obtain ⟨hcz42_0, hcz42_1, hcz42_2, hcz42_3, hfz42_0, hfz42_1, hfz42_2, hfz42_3⟩ := sd4 BK198.out
    obtain ⟨Ao43, co43, eo43⟩ := Kd.R_slice HO_203001.out
    subst eo43
    obtain ⟨Ao44, co44, eo44⟩ := Kd.R_slice HO_203002.out
    subst eo44
    obtain ⟨Ao45, co45, eo45⟩ := Kd.R_slice HO_203003.out
    subst eo45
    go_wp2
    refine bodyPost_ret (results_cell_row rfl _ _ gb198 33 #[.int .i64 t199, .slice Ao43 x203001_1.length co43, .slice Ao44 x203002_1.length co44, .slice Ao45 x203003_1.length co45] (0, 0) _ rfl ?_ Try.underlying33 rfl sqk) rfl ?_; exact bp BK198
    exact ⟨_, _, _, sqe, by (with_reducible repeat (first | apply Kd.R_alloc | apply Kd.R_drewN | apply Kd.R_drew)); exact Kd.R_mono (Kd.R_far (p := ⟨gb198, 3, none⟩) (Kd.R_far (p := ⟨gb198, 2, none⟩) (Kd.R_far (p := ⟨gb198, 1, none⟩) (Kd.R_far (p := ⟨gb198, 0, none⟩) (Kd.R_types HO_203001.out BK198.out (by decide)) (fun _ hk => hk.2) (.int .i64 t199)) (fun _ hk => hk.2) (.slice Ao43 x203001_1.length co43)) (fun _ hk => hk.2) (.slice Ao44 x203002_1.length co44)) (fun _ hk => hk.2) (.slice Ao45 x203003_1.length co45)) (fun _ hk => ⟨hk.1.1, hk.1.2⟩), by (with_reducible repeat (first | apply Kd.R_alloc | apply Kd.R_drewN | apply Kd.R_drew)); exact Kd.R_mono (Kd.R_far (p := ⟨gb198, 3, none⟩) (Kd.R_far (p := ⟨gb198, 2, none⟩) (Kd.R_far (p := ⟨gb198, 1, none⟩) (Kd.R_far (p := ⟨gb198, 0, none⟩) (Kd.R_types HO_203002.out BK198.out (by decide)) (fun _ hk => hk.2) (.int .i64 t199)) (fun _ hk => hk.2) (.slice Ao43 x203001_1.length co43)) (fun _ hk => hk.2) (.slice Ao44 x203002_1.length co44)) (fun _ hk => hk.2) (.slice Ao45 x203003_1.length co45)) (fun _ hk => ⟨hk.1.1, hk.1.2⟩), by (with_reducible repeat (first | apply Kd.R_alloc | apply Kd.R_drewN | apply Kd.R_drew)); exact Kd.R_mono (Kd.R_far (p := ⟨gb198, 3, none⟩) (Kd.R_far (p := ⟨gb198, 2, none⟩) (Kd.R_far (p := ⟨gb198, 1, none⟩) (Kd.R_far (p := ⟨gb198, 0, none⟩) (Kd.R_types HO_203003.out BK198.out (by decide)) (fun _ hk => hk.2) (.int .i64 t199)) (fun _ hk => hk.2) (.slice Ao43 x203001_1.length co43)) (fun _ hk => hk.2) (.slice Ao44 x203002_1.length co44)) (fun _ hk => hk.2) (.slice Ao45 x203003_1.length co45)) (fun _ hk => ⟨hk.1.1, hk.1.2⟩), sqi, sqj, by repeat (first | (with_reducible first | exact HK.out | apply KeepBut.set_ | apply keep_drewN | apply keep_drew | apply keep_alloc | refine keep_far ?_ GW198.out _ | refine keep_far ?_ GW202.out _) | exact HK.out)⟩

/-! ### spec_DrawAppraiseLog: function 58 -/
def spec_DrawAppraiseLog.f (k : Nat) (l0 : List Int) : Option (Int × List Int × List Int × List Int × List Int) := (spec_l1New.f k l0).bind fun bt216 => ((spec_l13Allowed.f k bt216.1 bt216.2.1 bt216.2.2).bind fun bt220 => ((spec_l12Log.f k bt216.1 bt220.2.2.2.2.1 bt220.2.2.2.2.2).bind fun bt233 => (some (bt220.1, bt220.2.1, bt220.2.2.1, bt220.2.2.2.1, bt233.1))))
theorem z58_0 {Q : Prop} (g : Q := by repeat (first | (with_reducible first | exact HB.out | apply below_alloc | apply pw_below_drewN | apply below_drew1 | refine below_set ?_ (IsS125.ge HI219.out) | refine below_set ?_ GE215.out) | exact HB.out)) : Q := g
theorem z58_1 {Q : Prop} (g : Q := by repeat (first | (with_reducible first | exact HB.out | apply below_alloc | apply pw_below_drewN | apply below_drew1 | refine below_set ?_ (IsS125.ge HI219.out) | refine below_set ?_ GE215.out | refine below_set ?_ GE232.out) | exact HB.out)) : Q := g
set_option maxHeartbeats 8000000 in
set_option maxRecDepth 100000 in
theorem spec_DrawAppraiseLog.calls (k : Nat) (A0 : Option Addr) (c0 : Nat) (l0 : List Int) (r1 : Int) (r2 : List Int) (r3 : List Int) (r4 : List Int) (r5 : List Int) (w : World) (hr0 : Kd.C (Kd.int .u8) w A0 l0.length l0) (hc0 : l0.length ≤ c0) (h : spec_DrawAppraiseLog.f k l0 = some (r1, r2, r3, r4, r5)) :
  Calls Try.prog 58 #[.slice A0 l0.length c0] w fun e w' => ∃ v1_ v2_ v3_ v4_ : Value, e = .returned (.tuple #[.agg #[.int .i64 r1, v1_, v2_, v3_], v4_]) ∧ Kd.R (Kd.int .i64) 3 w' w.heap.size (fun k_ => some k_ ≠ (v2_ : Value).ownBlock ∧ some k_ ≠ (v3_ : Value).ownBlock ∧ some k_ ≠ (v4_ : Value).ownBlock) v1_ r2 ∧ Kd.R (Kd.int .i64) 3 w' w.heap.size (fun k_ => some k_ ≠ (v1_ : Value).ownBlock ∧ some k_ ≠ (v3_ : Value).ownBlock ∧ some k_ ≠ (v4_ : Value).ownBlock) v2_ r3 ∧ Kd.R (Kd.int .i64) 3 w' w.heap.size (fun k_ => some k_ ≠ (v1_ : Value).ownBlock ∧ some k_ ≠ (v2_ : Value).ownBlock ∧ some k_ ≠ (v4_ : Value).ownBlock) v3_ r4 ∧ Kd.R (Kd.int .i64) 3 w' w.heap.size (fun k_ => some k_ ≠ (v1_ : Value).ownBlock ∧ some k_ ≠ (v2_ : Value).ownBlock ∧ some k_ ≠ (v3_ : Value).ownBlock) v4_ r5 ∧ Below w.heap.size w w' := by
 have hu33 := Try.underlying33
 have HR0 := Aside0.mk hr0
 have HC0 := Aside0.mk hc0
 clear hr0 hc0
 have HB := Aside0.mk (Below.refl w.heap.size w)
 have H : ((spec_l1New.f k l0).bind fun bt216 => ((spec_l13Allowed.f k bt216.1 bt216.2.1 bt216.2.2).bind fun bt220 => ((spec_l12Log.f k bt216.1 bt220.2.2.2.2.1 bt220.2.2.2.2.2).bind fun bt233 => (some (bt220.1, bt220.2.1, bt220.2.2.1, bt220.2.2.2.1, bt233.1))))) = some (r1, r2, r3, r4, r5) := h
 clear h
 obtain ⟨⟨t216, t217, t218⟩, A2, H⟩ := bA H
 dsimp only at H
 obtain ⟨⟨t220, t221, t224, t227, t230, t231⟩, A3, H⟩ := bA H
 dsimp only at H
 obtain ⟨⟨t233, t236, t237⟩, A4, H⟩ := bA H
 dsimp only at H
 simp only [Option.some.injEq, Prod.mk.injEq] at H
 obtain ⟨rfl, rfl, rfl, rfl, rfl⟩ := H
 go_enter Try.func58, Try.ntmps58
 try go_wp2_with (first | ((with_reducible refine gate_dst (N := 2) rfl ?_); refine bx (N := 2) (cs := #[.int .i64 0, .slice none 0 0, .slice none 0 0, .slice none 0 0]) (t := 33) ?_; intro gb215 hg w5 hbox hb; have BK215 := Aside0.mk (hbox); have GW215 := Aside0.mk ((by rw [hg]; exact (below_size sqh) : w.heap.size ≤ gb215)); have GE215 := Aside0.mk ((by rw [hg]; exact (below_size sqh) : w.heap.size ≤ gb215)); replace HB := Aside0.mk (below_step sqh hb); clear hb hbox hg) | ((with_reducible refine gate_callee (f := 97) rfl ?_); refine goesL_ (some 7) rfl rfl Try.func97 sqk rfl #[.slice A0 l0.length c0] rfl sqm ?_; (with_reducible refine (spec_l1New.calls k _ _ l0 t216 t217 t218 w _ ?side1 ?side2 ?side3 A2.out).mono ?_); (case side1 => exact sqh); (case side2 => exact HR0.out); (case side3 => exact HC0.out); rintro e w6 ⟨g219, rfl, hi, hb, hb2⟩; refine ⟨_, rfl, ?_⟩; replace HB := Aside0.mk (hb); have HI219 := Aside0.mk (hi); have NB219_215 := Aside0.mk (IsS125.ne_blk hi (blk_below (bo BK215) hb2) (by decide)); have NB215_219 := Aside0.mk (Ne.symm (IsS125.ne_blk hi (blk_below (bo BK215) hb2) (by decide))); replace BK215 := Aside0.mk (blk_below (bo BK215) hb2); (try clear hb); (try clear hb2); (try clear hi)) | ((with_reducible refine gate_callee (f := 116) rfl ?_); refine goesL_ (some 9) rfl rfl Try.func116 sqk rfl #[.pointer (some ⟨g219, 0, none⟩)] rfl sqm ?_; (with_reducible refine (spec_l13Allowed.calls k g219 t216 t217 t218 t220 t221 t224 t227 t230 t231 w _ ?side1 ?side2 A3.out).mono ?_); (case side1 => repeat (first | (with_reducible first | exact HI219.out | apply IsS125.alloc | apply IsS125.drewN | apply IsS125.drew | apply IsS125.set_1 | apply IsS125.set_2 | refine IsS125.far ?_ NB219_215.out _) | exact HI219.out)); (case side2 => exact z58_0); rintro e w7 ⟨v222, v225, v228, rfl, ho0, ho1, ho2, hi, hb, hk⟩; refine ⟨_, rfl, ?_⟩; replace BK215 := Aside0.mk (KeepBut.blk hk (g' := gb215) (o := .cells #[.int .i64 0, .slice none 0 0, .slice none 0 0, .slice none 0 0] 33 (0, 0)) (sqb BK215.out) NB215_219.out (by simp)); have HO223 := Aside0.mk (Kd.R_lower ho0 (below_size z58_0)); have HO226 := Aside0.mk (Kd.R_lower ho1 (below_size z58_0)); have HO229 := Aside0.mk (Kd.R_lower ho2 (below_size z58_0)); replace HB := Aside0.mk (hb); replace HI219 := Aside0.mk (hi); (try clear hb); (try clear hk); (try clear hi); (try clear ho0); (try clear ho1); (try clear ho2)) | ((with_reducible refine gate_dst (N := 5) rfl ?_); refine bx (N := 5) (cs := #[.int .i64 0, .slice none 0 0, .slice none 0 0, .slice none 0 0]) (t := 33) ?_; intro gb232 hg w8 hbox hb; replace HO223 := Aside0.mk (Kd.R_below (sqq HO223.out) hb); replace HO226 := Aside0.mk (Kd.R_below (sqq HO226.out) hb); replace HO229 := Aside0.mk (Kd.R_below (sqq HO229.out) hb); have BK232 := Aside0.mk (hbox); have GW232 := Aside0.mk ((by rw [hg]; exact (below_size z58_0) : w.heap.size ≤ gb232)); have GE232 := Aside0.mk ((by rw [hg]; exact (below_size z58_0) : w.heap.size ≤ gb232)); replace HB := Aside0.mk (below_step z58_0 hb); have NB215_232 := Aside0.mk ((by rw [hg]; exact Nat.ne_of_lt (blk_lt (bo BK215)) : gb215 ≠ gb232)); have NB232_215 := Aside0.mk ((by rw [hg]; exact Nat.ne_of_gt (blk_lt (bo BK215)) : gb232 ≠ gb215)); replace BK215 := Aside0.mk (blk_below (bo BK215) hb); have NB219_232 := Aside0.mk ((by rw [hg]; exact Nat.ne_of_lt (IsS125.lt (show IsS125 w _ g219 t216 t230 t231 from by repeat (first | (with_reducible first | exact HI219.out | apply IsS125.alloc | apply IsS125.drewN | apply IsS125.drew | apply IsS125.set_1 | apply IsS125.set_2 | refine IsS125.far ?_ NB219_215.out _) | exact HI219.out))) : g219 ≠ gb232)); have NB232_219 := Aside0.mk ((by rw [hg]; exact Nat.ne_of_gt (IsS125.lt (show IsS125 w _ g219 t216 t230 t231 from by repeat (first | (with_reducible first | exact HI219.out | apply IsS125.alloc | apply IsS125.drewN | apply IsS125.drew | apply IsS125.set_1 | apply IsS125.set_2 | refine IsS125.far ?_ NB219_215.out _) | exact HI219.out))) : gb232 ≠ g219)); replace HI219 := Aside0.mk (IsS125.below (by repeat (first | (with_reducible first | exact HI219.out | apply IsS125.alloc | apply IsS125.drewN | apply IsS125.drew | apply IsS125.set_1 | apply IsS125.set_2 | refine IsS125.far ?_ NB219_215.out _) | exact HI219.out)) hb); clear hb hbox hg; have hnb9 := NB232_215.out; have hnc9 := NB215_232.out; have hnb10 := NB232_219.out; have hnc10 := NB219_232.out; obtain ⟨hcz11_0, hcz11_1, hcz11_2, hcz11_3, hfz11_0, hfz11_1, hfz11_2, hfz11_3⟩ := sd4 BK232.out; obtain ⟨Ao12, co12, eo12⟩ := Kd.R_slice HO223.out; subst eo12; obtain ⟨Ao13, co13, eo13⟩ := Kd.R_slice HO226.out; subst eo13; obtain ⟨Ao14, co14, eo14⟩ := Kd.R_slice HO229.out; subst eo14))
 have n0_ : Aside0 (Kd.R (Kd.int .i64) 3 ((((w8.setCell ⟨gb232, 0, none⟩ (.int .i64 t220)).setCell ⟨gb232, 1, none⟩ (.slice Ao12 t221.length co12)).setCell ⟨gb232, 2, none⟩ (.slice Ao13 t224.length co13)).setCell ⟨gb232, 3, none⟩ (.slice Ao14 t227.length co14)) w.heap.size (fun k_ => some k_ ≠ (.slice Ao13 t224.length co13 : Value).ownBlock ∧ some k_ ≠ (.slice Ao14 t227.length co14 : Value).ownBlock) (.slice Ao12 t221.length co12) t221) := ⟨by (with_reducible repeat (first | apply Kd.R_alloc | apply Kd.R_drewN | apply Kd.R_drew)); exact Kd.R_mono (Kd.R_far (p := ⟨gb232, 3, none⟩) (Kd.R_far (p := ⟨gb232, 2, none⟩) (Kd.R_far (p := ⟨gb232, 1, none⟩) (Kd.R_far (p := ⟨gb232, 0, none⟩) (Kd.R_types HO223.out BK232.out (by decide)) (fun _ hk => hk.2) (.int .i64 t220)) (fun _ hk => hk.2) (.slice Ao12 t221.length co12)) (fun _ hk => hk.2) (.slice Ao13 t224.length co13)) (fun _ hk => hk.2) (.slice Ao14 t227.length co14)) (fun _ hk => ⟨hk.1.1, hk.1.2⟩)⟩
 have n1_ : Aside0 (Kd.R (Kd.int .i64) 3 ((((w8.setCell ⟨gb232, 0, none⟩ (.int .i64 t220)).setCell ⟨gb232, 1, none⟩ (.slice Ao12 t221.length co12)).setCell ⟨gb232, 2, none⟩ (.slice Ao13 t224.length co13)).setCell ⟨gb232, 3, none⟩ (.slice Ao14 t227.length co14)) w.heap.size (fun k_ => some k_ ≠ (.slice Ao12 t221.length co12 : Value).ownBlock ∧ some k_ ≠ (.slice Ao14 t227.length co14 : Value).ownBlock) (.slice Ao13 t224.length co13) t224) := ⟨by (with_reducible repeat (first | apply Kd.R_alloc | apply Kd.R_drewN | apply Kd.R_drew)); exact Kd.R_mono (Kd.R_far (p := ⟨gb232, 3, none⟩) (Kd.R_far (p := ⟨gb232, 2, none⟩) (Kd.R_far (p := ⟨gb232, 1, none⟩) (Kd.R_far (p := ⟨gb232, 0, none⟩) (Kd.R_types HO226.out BK232.out (by decide)) (fun _ hk => hk.2) (.int .i64 t220)) (fun _ hk => hk.2) (.slice Ao12 t221.length co12)) (fun _ hk => hk.2) (.slice Ao13 t224.length co13)) (fun _ hk => hk.2) (.slice Ao14 t227.length co14)) (fun _ hk => ⟨hk.1.1, hk.1.2⟩)⟩
 have n2_ : Aside0 (Kd.R (Kd.int .i64) 3 ((((w8.setCell ⟨gb232, 0, none⟩ (.int .i64 t220)).setCell ⟨gb232, 1, none⟩ (.slice Ao12 t221.length co12)).setCell ⟨gb232, 2, none⟩ (.slice Ao13 t224.length co13)).setCell ⟨gb232, 3, none⟩ (.slice Ao14 t227.length co14)) w.heap.size (fun k_ => some k_ ≠ (.slice Ao12 t221.length co12 : Value).ownBlock ∧ some k_ ≠ (.slice Ao13 t224.length co13 : Value).ownBlock) (.slice Ao14 t227.length co14) t227) := ⟨by (with_reducible repeat (first | apply Kd.R_alloc | apply Kd.R_drewN | apply Kd.R_drew)); exact Kd.R_mono (Kd.R_far (p := ⟨gb232, 3, none⟩) (Kd.R_far (p := ⟨gb232, 2, none⟩) (Kd.R_far (p := ⟨gb232, 1, none⟩) (Kd.R_far (p := ⟨gb232, 0, none⟩) (Kd.R_types HO229.out BK232.out (by decide)) (fun _ hk => hk.2) (.int .i64 t220)) (fun _ hk => hk.2) (.slice Ao12 t221.length co12)) (fun _ hk => hk.2) (.slice Ao13 t224.length co13)) (fun _ hk => hk.2) (.slice Ao14 t227.length co14)) (fun _ hk => ⟨hk.1.1, hk.1.2⟩)⟩
 have n3_ : Aside0 (((((w8.setCell ⟨gb232, 0, none⟩ (.int .i64 t220)).setCell ⟨gb232, 1, none⟩ (.slice Ao12 t221.length co12)).setCell ⟨gb232, 2, none⟩ (.slice Ao13 t224.length co13)).setCell ⟨gb232, 3, none⟩ (.slice Ao14 t227.length co14)).heap[gb215]? = some (.cells #[.int .i64 0, .slice none 0 0, .slice none 0 0, .slice none 0 0] 33 (0, 0))) := ⟨bp BK215⟩
 have n4_ : Aside0 (((((w8.setCell ⟨gb232, 0, none⟩ (.int .i64 t220)).setCell ⟨gb232, 1, none⟩ (.slice Ao12 t221.length co12)).setCell ⟨gb232, 2, none⟩ (.slice Ao13 t224.length co13)).setCell ⟨gb232, 3, none⟩ (.slice Ao14 t227.length co14)).heap[gb232]? = some (.cells #[.int .i64 t220, .slice Ao12 t221.length co12, .slice Ao13 t224.length co13, .slice Ao14 t227.length co14] 33 (0, 0))) := ⟨bp BK232⟩
 have n5_ : Aside0 (IsS125 w ((((w8.setCell ⟨gb232, 0, none⟩ (.int .i64 t220)).setCell ⟨gb232, 1, none⟩ (.slice Ao12 t221.length co12)).setCell ⟨gb232, 2, none⟩ (.slice Ao13 t224.length co13)).setCell ⟨gb232, 3, none⟩ (.slice Ao14 t227.length co14)) g219 t216 t230 t231) := ⟨by repeat (first | (with_reducible first | exact HI219.out | apply IsS125.alloc | apply IsS125.drewN | apply IsS125.drew | apply IsS125.set_1 | apply IsS125.set_2 | refine IsS125.far ?_ NB219_215.out _ | refine IsS125.far ?_ NB219_232.out _) | exact HI219.out)⟩
 have n6_ : Aside0 (Below w.heap.size w ((((w8.setCell ⟨gb232, 0, none⟩ (.int .i64 t220)).setCell ⟨gb232, 1, none⟩ (.slice Ao12 t221.length co12)).setCell ⟨gb232, 2, none⟩ (.slice Ao13 t224.length co13)).setCell ⟨gb232, 3, none⟩ (.slice Ao14 t227.length co14))) := ⟨by repeat (first | (with_reducible first | exact HB.out | apply below_alloc | apply pw_below_drewN | apply below_drew1 | refine below_set ?_ (IsS125.ge HI219.out) | refine below_set ?_ GE215.out | refine below_set ?_ GE232.out) | exact HB.out)⟩
 (try clear HO223)
 (try clear HO226)
 (try clear HO229)
 (try clear BK215)
 (try clear BK232)
 (try clear HI219)
 (try clear HB)
 generalize ((((w8.setCell ⟨gb232, 0, none⟩ (.int .i64 t220)).setCell ⟨gb232, 1, none⟩ (.slice Ao12 t221.length co12)).setCell ⟨gb232, 2, none⟩ (.slice Ao13 t224.length co13)).setCell ⟨gb232, 3, none⟩ (.slice Ao14 t227.length co14)) = w15 at n0_ n1_ n2_ n3_ n4_ n5_ n6_ ⊢
 have HO223 := n0_
 have HO226 := n1_
 have HO229 := n2_
 have BK215 := n3_
 have BK232 := n4_
 have HI219 := n5_
 have HB := n6_
 clear n0_ n1_ n2_ n3_ n4_ n5_ n6_
 replace HO223 := Aside0.mk (Kd.R_drew HO223.out)
 replace HO226 := Aside0.mk (Kd.R_drew HO226.out)
 replace HO229 := Aside0.mk (Kd.R_drew HO229.out)
 replace BK215 := Aside0.mk (blk_drew BK215.out)
 replace BK232 := Aside0.mk (blk_drew BK232.out)
 replace HI219 := Aside0.mk (IsS125.drew HI219.out)
 replace HB := Aside0.mk (below_drew1 HB.out)
 refine start_ (n := 5) (S := fun w' => w'.cell? ⟨gb232, 0, none⟩ = some (.int .i64 t220) ∧ w'.cell? ⟨gb232, 1, none⟩ = some (.slice Ao12 t221.length co12) ∧ w'.cell? ⟨gb232, 2, none⟩ = some (.slice Ao13 t224.length co13) ∧ w'.cell? ⟨gb232, 3, none⟩ = some (.slice Ao14 t227.length co14)) (ds := []) #[false, false, false, false, false] sqk rfl rfl (sc4 BK232.out) (fun hHeld => ?_)
 generalize w15.drew = w16 at HO223 HO226 HO229 BK215 BK232 HI219 HB hHeld ⊢
 refine pu 1 11 ?_; refine ta 0 10 ?_
 refine on 2 (some 12) (fun K hK => ?_)
 refine goes_ Try.func102 sqk rfl #[.pointer (some ⟨g219, 0, none⟩)] (by rfl) rfl rfl sqm ?_
 with_reducible refine (spec_l12Log.calls k g219 t216 t230 t231 t233 t236 t237 w _ ?side1 ?side2 A4.out).mono ?_
 (case side1 => repeat (first | (with_reducible first | exact HI219.out | apply IsS125.alloc | apply IsS125.drewN | apply IsS125.drew | apply IsS125.set_1 | apply IsS125.set_2 | refine IsS125.far ?_ NB219_215.out _ | refine IsS125.far ?_ NB219_232.out _) | exact HI219.out))
 (case side2 => exact z58_1)
 rintro e w17 ⟨v234, rfl, ho0, hi, hb, hk⟩
 refine ⟨_, rfl, ?_⟩
 replace BK215 := Aside0.mk (KeepBut.blk hk (g' := gb215) (o := .cells #[.int .i64 0, .slice none 0 0, .slice none 0 0, .slice none 0 0] 33 (0, 0)) (sqb BK215.out) NB215_219.out (by simp))
 replace BK232 := Aside0.mk (KeepBut.blk hk (g' := gb232) (o := .cells #[.int .i64 t220, .slice Ao12 t221.length co12, .slice Ao13 t224.length co13, .slice Ao14 t227.length co14] 33 (0, 0)) (sqb BK232.out) NB232_219.out (by simp))
 have HO235 := Aside0.mk (Kd.R_lower (Kd.R_new' (Kd.R_new' (Kd.R_new' ho0 (Kd.R_lt (sqq HO223.out))) (Kd.R_lt (sqq HO226.out))) (Kd.R_lt (sqq HO229.out))) (below_size z58_1))
 replace HO223 := Aside0.mk (Kd.R_mono (Kd.R_told (Kd.R_oldK (IsS125.apart (show IsS125 w _ g219 t216 t230 t231 from by repeat (first | (with_reducible first | exact HI219.out | apply IsS125.alloc | apply IsS125.drewN | apply IsS125.drew | apply IsS125.set_1 | apply IsS125.set_2 | refine IsS125.far ?_ NB219_215.out _ | refine IsS125.far ?_ NB219_232.out _) | exact HI219.out)) (sqq HO223.out) (by decide)) hk) (Kd.R_base ho0)) (fun _ h_ => h_.1))
 replace HO226 := Aside0.mk (Kd.R_mono (Kd.R_told (Kd.R_oldK (IsS125.apart (show IsS125 w _ g219 t216 t230 t231 from by repeat (first | (with_reducible first | exact HI219.out | apply IsS125.alloc | apply IsS125.drewN | apply IsS125.drew | apply IsS125.set_1 | apply IsS125.set_2 | refine IsS125.far ?_ NB219_215.out _ | refine IsS125.far ?_ NB219_232.out _) | exact HI219.out)) (sqq HO226.out) (by decide)) hk) (Kd.R_base ho0)) (fun _ h_ => h_.1))
 replace HO229 := Aside0.mk (Kd.R_mono (Kd.R_told (Kd.R_oldK (IsS125.apart (show IsS125 w _ g219 t216 t230 t231 from by repeat (first | (with_reducible first | exact HI219.out | apply IsS125.alloc | apply IsS125.drewN | apply IsS125.drew | apply IsS125.set_1 | apply IsS125.set_2 | refine IsS125.far ?_ NB219_215.out _ | refine IsS125.far ?_ NB219_232.out _) | exact HI219.out)) (sqq HO229.out) (by decide)) hk) (Kd.R_base ho0)) (fun _ h_ => h_.1))
 replace HB := Aside0.mk (hb)
 replace HI219 := Aside0.mk (hi)
 (try clear hb)
 (try clear hb2)
 (try clear hk)
 (try clear hi)
 (try clear ho0)
 refine hK.out _ _ (sc4 BK232.out) (fun hHeld => ?_)
 clear hK K; refine no 12 ?_
 refine on 3 none (fun K hK => ?_)
 obtain ⟨hs18, hfs18⟩ := sd1 BK215.out
 have hns18_1 := NB232_215.out
 have hms18_1 := NB215_232.out
 have hs19 : w17.cell? ⟨gb215, 1, none⟩ = some (.slice none 0 0) := (blk_cell BK215.out 1).trans rfl
 have hfs19 := blk_frozen BK215.out 1
 have hns19_1 := NB232_215.out
 have hms19_1 := NB215_232.out
 have hs20 : w17.cell? ⟨gb215, 2, none⟩ = some (.slice none 0 0) := (blk_cell BK215.out 2).trans rfl
 have hfs20 := blk_frozen BK215.out 2
 have hns20_1 := NB232_215.out
 have hms20_1 := NB215_232.out
 have hs21 : w17.cell? ⟨gb215, 3, none⟩ = some (.slice none 0 0) := (blk_cell BK215.out 3).trans rfl
 have hfs21 := blk_frozen BK215.out 3
 have hns21_1 := NB232_215.out
 have hms21_1 := NB215_232.out
 refine skip_ (w1 := ?_) (by rfl) rfl ?_ ?_
 rotate_left
 ·go_simp
  rfl
 refine hK.out _ _ ⟨((cell_far (p := ⟨gb215, _, none⟩) NB232_215.out _).trans (((cell_far (p := ⟨gb215, _, none⟩) NB232_215.out _).trans (((cell_far (p := ⟨gb215, _, none⟩) NB232_215.out _).trans (((cell_far (p := ⟨gb215, _, none⟩) NB232_215.out _).trans (hHeld.1)))))))), ((cell_far (p := ⟨gb215, _, none⟩) NB232_215.out _).trans (((cell_far (p := ⟨gb215, _, none⟩) NB232_215.out _).trans (((cell_far (p := ⟨gb215, _, none⟩) NB232_215.out _).trans (((cell_far (p := ⟨gb215, _, none⟩) NB232_215.out _).trans (hHeld.2.1)))))))), ((cell_far (p := ⟨gb215, _, none⟩) NB232_215.out _).trans (((cell_far (p := ⟨gb215, _, none⟩) NB232_215.out _).trans (((cell_far (p := ⟨gb215, _, none⟩) NB232_215.out _).trans (((cell_far (p := ⟨gb215, _, none⟩) NB232_215.out _).trans (hHeld.2.2.1)))))))), ((cell_far (p := ⟨gb215, _, none⟩) NB232_215.out _).trans (((cell_far (p := ⟨gb215, _, none⟩) NB232_215.out _).trans (((cell_far (p := ⟨gb215, _, none⟩) NB232_215.out _).trans (((cell_far (p := ⟨gb215, _, none⟩) NB232_215.out _).trans (hHeld.2.2.2))))))))⟩ (fun hHeld => ?_)
 clear hK K; refine pu 4 3 ?_
 refine dn ?_
 try go_wp2
 refine bodyPost_ret (results_ct rfl _ _ gb215 33 #[.int .i64 t220, .slice Ao12 t221.length co12, .slice Ao13 t224.length co13, .slice Ao14 t227.length co14] (0, 0) _ rfl ?_ Try.underlying33 rfl sqk) rfl ?_; exact bp BK215
 exact ⟨_, _, _, _, sqe, by (with_reducible repeat (first | apply Kd.R_alloc | apply Kd.R_drewN | apply Kd.R_drew)); exact Kd.R_mono (Kd.R_far (p := ⟨gb215, 3, none⟩) (Kd.R_far (p := ⟨gb215, 2, none⟩) (Kd.R_far (p := ⟨gb215, 1, none⟩) (Kd.R_far (p := ⟨gb215, 0, none⟩) (Kd.R_types HO223.out BK215.out (by decide)) (fun _ hk => hk.2) (.int .i64 t220)) (fun _ hk => hk.2) (.slice Ao12 t221.length co12)) (fun _ hk => hk.2) (.slice Ao13 t224.length co13)) (fun _ hk => hk.2) (.slice Ao14 t227.length co14)) (fun _ hk => ⟨hk.1.1.1, ⟨hk.1.1.2, hk.1.2⟩⟩), by (with_reducible repeat (first | apply Kd.R_alloc | apply Kd.R_drewN | apply Kd.R_drew)); exact Kd.R_mono (Kd.R_far (p := ⟨gb215, 3, none⟩) (Kd.R_far (p := ⟨gb215, 2, none⟩) (Kd.R_far (p := ⟨gb215, 1, none⟩) (Kd.R_far (p := ⟨gb215, 0, none⟩) (Kd.R_types HO226.out BK215.out (by decide)) (fun _ hk => hk.2) (.int .i64 t220)) (fun _ hk => hk.2) (.slice Ao12 t221.length co12)) (fun _ hk => hk.2) (.slice Ao13 t224.length co13)) (fun _ hk => hk.2) (.slice Ao14 t227.length co14)) (fun _ hk => ⟨hk.1.1.1, ⟨hk.1.1.2, hk.1.2⟩⟩), by (with_reducible repeat (first | apply Kd.R_alloc | apply Kd.R_drewN | apply Kd.R_drew)); exact Kd.R_mono (Kd.R_far (p := ⟨gb215, 3, none⟩) (Kd.R_far (p := ⟨gb215, 2, none⟩) (Kd.R_far (p := ⟨gb215, 1, none⟩) (Kd.R_far (p := ⟨gb215, 0, none⟩) (Kd.R_types HO229.out BK215.out (by decide)) (fun _ hk => hk.2) (.int .i64 t220)) (fun _ hk => hk.2) (.slice Ao12 t221.length co12)) (fun _ hk => hk.2) (.slice Ao13 t224.length co13)) (fun _ hk => hk.2) (.slice Ao14 t227.length co14)) (fun _ hk => ⟨hk.1.1.1, ⟨hk.1.1.2, hk.1.2⟩⟩), by (with_reducible repeat (first | apply Kd.R_alloc | apply Kd.R_drewN | apply Kd.R_drew)); exact Kd.R_mono (Kd.R_far (p := ⟨gb215, 3, none⟩) (Kd.R_far (p := ⟨gb215, 2, none⟩) (Kd.R_far (p := ⟨gb215, 1, none⟩) (Kd.R_far (p := ⟨gb215, 0, none⟩) (Kd.R_types HO235.out BK215.out (by decide)) (fun _ hk => hk.2) (.int .i64 t220)) (fun _ hk => hk.2) (.slice Ao12 t221.length co12)) (fun _ hk => hk.2) (.slice Ao13 t224.length co13)) (fun _ hk => hk.2) (.slice Ao14 t227.length co14)) (fun _ hk => ⟨hk.1.1.1.2, ⟨hk.1.1.2, hk.1.2⟩⟩), by repeat (first | (with_reducible first | exact HB.out | apply below_alloc | apply pw_below_drewN | apply below_drew1 | refine below_set ?_ (IsS125.ge HI219.out) | refine below_set ?_ GE215.out | refine below_set ?_ GE232.out) | exact HB.out)⟩

/-! ### spec_l1Int: function 98 -/
def spec_l1Int.f (s0_0 : List Int) (s0_1 : Int) (s0_2 : Int) (l1 : List Int) : Option (Int × Int × Int) := (spec_l1Below.f s0_0 s0_1 s0_2 (l1.length : Int)).bind fun bt238 => (if 0 ≤ bt238.1 then (if bt238.1 < (l1.length : Int) then (some (rd l1 bt238.1, bt238.2.1, bt238.2.2)) else (none)) else (none))
set_option maxHeartbeats 8000000 in
set_option maxRecDepth 100000 in
theorem spec_l1Int.calls (g : Nat) (s0_0 : List Int) (s0_1 : Int) (s0_2 : Int) (A1 : Option Addr) (c1 : Nat) (l1 : List Int) (r1 : Int) (r2 : Int) (r3 : Int) (w0 w : World) (hI : IsS125 w0 w g s0_0 s0_1 s0_2) (hB : Below w0.heap.size w0 w) (hr1 : Kd.C (Kd.int .i64) w A1 l1.length l1) (hc1 : l1.length ≤ c1) (hf1 : ∀ ad, A1 = some ad → 0 < l1.length → ad.block ≠ g) (h : spec_l1Int.f s0_0 s0_1 s0_2 l1 = some (r1, r2, r3)) :
  Calls Try.prog 98 #[.pointer (some ⟨g, 0, none⟩), .slice A1 l1.length c1] w fun e w' => e = .returned (.int .i64 r1) ∧ IsS125 w0 w' g s0_0 r2 r3 ∧ Below w0.heap.size w0 w' ∧ KeepBut w w' g none := by
 have HR1 := Aside0.mk hr1
 have HC1 := Aside0.mk hc1
 clear hr1 hc1
 have HI0 := Aside0.mk hI
 have HK := Aside0.mk (KeepBut.refl w g none)
 have HL := Aside0.mk hB.size
 clear hI
 have HW0 := Aside0.mk hB.size
 have HB := Aside0.mk hB
 clear hB
 have H : ((spec_l1Below.f s0_0 s0_1 s0_2 (l1.length : Int)).bind fun bt238 => (if 0 ≤ bt238.1 then (if bt238.1 < (l1.length : Int) then (some (rd l1 bt238.1, bt238.2.1, bt238.2.2)) else (none)) else (none))) = some (r1, r2, r3) := h
 clear h
 obtain ⟨⟨t238, t239, t240⟩, A3, H⟩ := bA H
 dsimp only at H
 by_cases c4 : 0 ≤ t238
 ·rw [if_pos c4] at H
  have c4b0 : decide (0 ≤ t238) = true := decide_eq_true c4
  clear c4
  by_cases c5 : t238 < (l1.length : Int)
  ·rw [if_pos c5] at H
   have c5b0 : decide (t238 < (l1.length : Int)) = true := decide_eq_true c5
   clear c5
   simp only [Option.some.injEq, Prod.mk.injEq] at H
   obtain ⟨rfl, rfl, rfl⟩ := H
   go_enter Try.func98, Try.ntmps98
   go_wp2_with (first | ((with_reducible refine gate_callee (f := 103) rfl ?_); refine goesL_ (some 9) rfl rfl Try.func103 sqk rfl #[.pointer (some ⟨g, 0, none⟩), .int .i64 (l1.length : Int)] rfl sqm ?_; (with_reducible refine (spec_l1Below.calls g s0_0 s0_1 s0_2 (l1.length : Int) t238 t239 t240 w0 _ ?side1 ?side2 A3.out).mono ?_); (case side1 => exact sqi); (case side2 => exact sqj); rintro e w6 ⟨rfl, hi, hb, hk⟩; refine ⟨_, rfl, ?_⟩; replace HK := Aside0.mk (KeepBut.trans sqp hk (.inl rfl)); replace HB := Aside0.mk (hb); replace HI0 := Aside0.mk (hi); (try clear hb); (try clear hk); (try clear hi); have p241 : 0 ≤ (t238 : Int) := of_decide_eq_true sqs; have q241 : t238 < (l1.length : Int) := of_decide_eq_true sqs; obtain ⟨ad241, e241, hx241_0⟩ := Kd.at_int HR1.out t238 p241 q241; cases e241; replace hx241_0 := keep_cell HK.out hx241_0 (by first | (rw [add_block]; exact hf1 _ rfl (by omega)) | exact hf1 _ rfl (by omega) | exact hf1 ad241 rfl (by omega)); replace p241 := eq_true p241; replace q241 := eq_true q241))
   go_ret
   exact ⟨sqe, sqi, sqj, sqp⟩
  ·rw [if_neg c5] at H
   exact absurd H (by simp)
 ·rw [if_neg c4] at H
  exact absurd H (by simp)

end Go.Proofs.Ytlmhemcpkmjkiaa.XFnAppraisal
