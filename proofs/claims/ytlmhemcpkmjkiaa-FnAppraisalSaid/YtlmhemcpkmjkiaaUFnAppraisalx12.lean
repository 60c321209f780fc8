/- Written by this session's own program (wip/xprint, which runs over the kit's print): what the functions that the law reaches come to, each proved; and the law's row. Conditions: none. -/
import Derived.Test.YtlmhemcpkmjkiaaUFnAppraisalSq
import Derived.Test.YtlmhemcpkmjkiaaUFnAppraisalx0
import Derived.Test.YtlmhemcpkmjkiaaUFnAppraisalx1
import Derived.Test.YtlmhemcpkmjkiaaUFnAppraisalx2
import Derived.Test.YtlmhemcpkmjkiaaUFnAppraisalx8
import Derived.Test.YtlmhemcpkmjkiaaUFnAppraisalx11
namespace Go.Proofs.Ytlmhemcpkmjkiaa.XFnAppraisal
open Go.RowKit Go.Proofs.YtlmhemcpkmjkiaaW.PrintWords Go.Proofs.YtlmhemcpkmjkiaaW.PrintLast Go.Proofs.YtlmhemcpkmjkiaaW.PrintMore Go.Proofs.YtlmhemcpkmjkiaaSq
attribute [local go_sem] max2_int min2_int max_two min_two max_three min_three max_four min_four   -- for this text's walks alone
set_option linter.unusedVariables false
set_option linter.unusedSimpArgs false

attribute [local go_sem high] eqA45
/-! ### impl_KindOf: function 132 -/
def impl_KindOf.f (a0 : Int) : Option (Int) := (impl_IsName.f a0).bind fun t462 => (if t462 = true then (some (wrap64 (Int.tdiv a0 10))) else (some 0))
set_option maxHeartbeats 8000000 in
set_option maxRecDepth 100000 in
theorem impl_KindOf.calls (a0 : Int) (r : Int) (w : World) (h : impl_KindOf.f a0 = some r) :
  Calls Try.prog 132 #[.int .i64 a0] w fun e w' => e = .returned (.int .i64 r) ∧ Drawn0 w w' := by
 have H : ((impl_IsName.f a0).bind fun t462 => (if t462 = true then (some (wrap64 (Int.tdiv a0 10))) else (some 0))) = some r := h
 clear h
 obtain ⟨t462, A2, H⟩ := bA H
 by_cases c3 : t462 = true
 ·subst c3
  replace H := iT H
  obtain rfl := Option.some.inj H
  go_enter Try.func132, Try.ntmps132
  go_wp2_with (first | ((with_reducible refine gate_callee (f := 112) rfl ?_); refine goesL_ (some 4) rfl rfl Try.func112 sqk rfl #[.int .i64 a0] rfl sqm ?_; (with_reducible refine (impl_IsName.calls a0 true _ A2.out).mono ?_); rintro e w' ⟨rfl, ⟨nd, rfl⟩⟩; refine ⟨_, rfl, ?_⟩))
  go_ret
  exact ⟨sqr, by repeat (first | exact Drawn0.refl _ | apply Drawn0.step)⟩
 ·replace c3 := Bool.eq_false_iff.mpr c3
  subst c3
  replace H := iF H
  obtain rfl := Option.some.inj H
  go_enter Try.func132, Try.ntmps132
  go_wp2_with (first | ((with_reducible refine gate_callee (f := 112) rfl ?_); refine goesL_ (some 4) rfl rfl Try.func112 sqk rfl #[.int .i64 a0] rfl sqm ?_; (with_reducible refine (impl_IsName.calls a0 false _ A2.out).mono ?_); rintro e w' ⟨rfl, ⟨nd, rfl⟩⟩; refine ⟨_, rfl, ?_⟩))
  go_ret
  exact ⟨sqr, by repeat (first | exact Drawn0.refl _ | apply Drawn0.step)⟩

/-! ### impl_HasKind: function 88 -/
def impl_HasKind.f (a0 : Int) (a1 : Int) : Option (Bool) := (impl_IsName.f a0).bind fun t463 => (if t463 = true then ((impl_KindOf.f a0).bind fun t464 => (some (t464 == a1))) else (some false))
set_option maxHeartbeats 8000000 in
set_option maxRecDepth 100000 in
theorem impl_HasKind.calls (a0 : Int) (a1 : Int) (r : Bool) (w : World) (h : impl_HasKind.f a0 a1 = some r) :
  Calls Try.prog 88 #[.int .i64 a0, .int .i64 a1] w fun e w' => e = .returned (.bool r) ∧ Drawn0 w w' := by
 have H : ((impl_IsName.f a0).bind fun t463 => (if t463 = true then ((impl_KindOf.f a0).bind fun t464 => (some (t464 == a1))) else (some false))) = some r := h
 clear h
 obtain ⟨t463, A3, H⟩ := bA H
 by_cases c4 : t463 = true
 ·subst c4
  replace H := iT H
  obtain ⟨t464, A5, H⟩ := bA H
  obtain rfl := Option.some.inj H
  go_enter Try.func88, Try.ntmps88
  go_wp2_with (first | ((with_reducible refine gate_callee (f := 112) rfl ?_); refine goesL_ (some 6) rfl rfl Try.func112 sqk rfl #[.int .i64 a0] rfl sqm ?_; (with_reducible refine (impl_IsName.calls a0 true _ A3.out).mono ?_); rintro e w' ⟨rfl, ⟨nd, rfl⟩⟩; refine ⟨_, rfl, ?_⟩) | (go_at_call 132; (with_reducible refine (impl_KindOf.calls a0 t464 _ A5.out).mono ?_); rintro e w' ⟨rfl, ⟨nd, rfl⟩⟩))
  go_ret
  exact ⟨sqr, by repeat (first | exact Drawn0.refl _ | apply Drawn0.step)⟩
 ·replace c4 := Bool.eq_false_iff.mpr c4
  subst c4
  replace H := iF H
  obtain rfl := Option.some.inj H
  go_enter Try.func88, Try.ntmps88
  go_wp2_with (first | ((with_reducible refine gate_callee (f := 112) rfl ?_); refine goesL_ (some 6) rfl rfl Try.func112 sqk rfl #[.int .i64 a0] rfl sqm ?_; (with_reducible refine (impl_IsName.calls a0 false _ A3.out).mono ?_); rintro e w' ⟨rfl, ⟨nd, rfl⟩⟩; refine ⟨_, rfl, ?_⟩))
  go_ret
  exact ⟨sqr, by repeat (first | exact Drawn0.refl _ | apply Drawn0.step)⟩

/-! ### impl_IsTime: function 89 -/
def impl_IsTime.f (a0 : Int) : Option (Bool) := (impl_InRange.f a0 0 10000).bind fun t465 => (some t465)
set_option maxHeartbeats 8000000 in
set_option maxRecDepth 100000 in
theorem impl_IsTime.calls (a0 : Int) (r : Bool) (w : World) (h : impl_IsTime.f a0 = some r) :
  Calls Try.prog 89 #[.int .i64 a0] w fun e w' => e = .returned (.bool r) ∧ Drawn0 w w' := by
 have H : ((impl_InRange.f a0 0 10000).bind fun t465 => (some t465)) = some r := h
 clear h
 obtain ⟨t465, A2, H⟩ := bA H
 obtain rfl := Option.some.inj H
 go_enter Try.func89, Try.ntmps89
 go_wp2_with (first | ((with_reducible refine gate_callee (f := 70) rfl ?_); refine goesL_ (some 4) rfl rfl Try.func70 sqk rfl #[.int .i64 a0, .int .i64 0, .int .i64 10000] rfl sqm ?_; (with_reducible refine (impl_InRange.calls a0 0 10000 t465 _ A2.out).mono ?_); rintro e w' ⟨rfl, ⟨nd, rfl⟩⟩; refine ⟨_, rfl, ?_⟩))
 go_ret
 exact ⟨sqr, by repeat (first | exact Drawn0.refl _ | apply Drawn0.step)⟩

/-! ### slices_Grow_int_int: function 143 -/
/-- Grow of a nil slice: an empty slice (with room). -/
def slices_Grow_int_int.f (l0 : List Int) (a1 : Int) : Option (List Int) := if l0 = [] ∧ 0 ≤ a1 ∧ a1 ≤ 1099511627776 then some [] else none
set_option maxHeartbeats 8000000 in
set_option maxRecDepth 100000 in
theorem slices_Grow_int_int.calls (A0 : Option Addr) (c0 : Nat) (l0 : List Int) (a1 : Int) (r : List Int) (w : World) (hr0 : Kd.C (Kd.int .i64) w A0 l0.length l0) (hc0 : l0.length ≤ c0) (h : slices_Grow_int_int.f l0 a1 = some r) (hA : A0 = none := by rfl) (hcc : c0 = 0 := by rfl) :
  Calls Try.prog 143 #[.slice A0 l0.length c0, .int .i64 a1] w fun e w' => ∃ v0_ : Value, e = .returned (v0_) ∧ Kd.R (Kd.int .i64) 3 w' w.heap.size (fun _ => True) v0_ r ∧ Below w.heap.size w w' := by
 subst hA
 subst hcc
 unfold slices_Grow_int_int.f at h
 split at h
 ·rename_i hc
  obtain ⟨rfl, h0, h1⟩ := hc
  obtain rfl := Option.some.inj h
  clear h hr0 hc0
  show Calls Try.prog 143 #[.slice none 0 0, .int .i64 a1] w _
  have hlim : (([] : List Int).length + a1.toNat) * 8 ≤ 140737488355328 := by simp only [List.length_nil]; omega
  have b0 : decide (a1 < 0) = false := decide_eq_false (by omega)
  by_cases hp : 0 < a1
  ·have b1 : decide (0 < a1) = true := decide_eq_true hp
   obtain ⟨i0, hi, hzz⟩ := Option.map_eq_some_iff.1 info3
   go_enter Try.func143, Try.ntmps143
   go_wp2_with (first | (at_builtin; refine Kd.R_append_zeros (Kd.int .i64) (w0 := w) w.heap.size rfl (.tmp 20) (.tmp 21) 28 3 3 (.int .i64 0) 8 rfl Try.underlying28 Try.underlying3 info3 rfl (by decide) (by omega) (.slice none 0 0) [] 0 (a1 : Int) (fun _ => True) rfl rfl rfl ?aF ?aO ?a0 ?aB ?aS ?aL ?_; (case aF => exact fun _ _ => trivial); (case aO => exact Kd.R_nil _ _ _ _ _); (case a0 => exact h0); (case aB => exact Below.refl _ _); (case aS => exact Nat.le_refl _); (case aL => exact hlim); intro v1 w1 ho hb hg hat; obtain ⟨A, c, rfl, hl, hC⟩ := Kd.R_reads ho; have hcut := cut_to (P := Try.prog) 28 3 .i64 Try.underlying28 hi A ([] ++ List.replicate a1.toNat (0 : Int)).length c 0 (by omega) (by omega) hl; have hk := Aside0.mk (Kd.R_take (m := 0) ho (by omega)); have hb2 := Aside0.mk hb; clear ho hb hat hg hC))
   go_ret
   exact ⟨_, rfl, by simpa using hk.out, hb2.out⟩
  ·have b1 : decide (0 < a1) = false := decide_eq_false hp
   obtain rfl : a1 = 0 := by omega
   go_enter Try.func143, Try.ntmps143
   go_wp2
   go_ret
   exact ⟨_, rfl, Kd.R_nil _ _ _ _ _, Below.refl _ _⟩
 ·cases h

/-! ### slices_Concat_int_int: function 133 -/
mutual
def slices_Concat_int_int.l0 : Nat → List (List Int) → Int → List (List Int) → Int → Int → Option (List Int)
 | 0, _, _, _, _, _ => none
 | k + 1, x0, x3, x9, x10, x11 => if x11 < x10 then (if 0 ≤ x11 then (if x11 < (x9.length : Int) then (if (wrap64 (x3 + ((rd_L1 x9 x11).length : Int))) < 0 then (none) else (slices_Concat_int_int.l0 k x0 (wrap64 (x3 + ((rd_L1 x9 x11).length : Int))) x9 x10 (wrap64 (x11 + 1)))) else (none)) else (none)) else ((slices_Grow_int_int.f ([] : List Int) x3).bind fun t467 => (slices_Concat_int_int.l1 k t467 x0 (x0.length : Int) 0))
def slices_Concat_int_int.l1 : Nat → List Int → List (List Int) → Int → Int → Option (List Int)
 | 0, _, _, _, _ => none
 | k + 1, x6, x25, x26, x27 => if x27 < x26 then (if 0 ≤ x27 then (if x27 < (x25.length : Int) then (if x6.length + (rd_L1 x25 x27).length < 17592186044416 then (slices_Concat_int_int.l1 k (x6 ++ (rd_L1 x25 x27)) x25 x26 (wrap64 (x27 + 1))) else (none)) else (none)) else (none)) else (some x6)
end
def slices_Concat_int_int.f (k : Nat) (l0 : List (List Int)) : Option (List Int) := slices_Concat_int_int.l0 k l0 0 l0 (l0.length : Int) 0
set_option maxHeartbeats 8000000 in
set_option maxRecDepth 100000 in
theorem slices_Concat_int_int.calls (k : Nat) (A0 : Option Addr) (c0 : Nat) (l0 : List (List Int)) (r : List Int) (w : World) (hr0 : Kd.C (Kd.slice 3 (Kd.int .i64)) w A0 l0.length l0) (hc0 : l0.length ≤ c0) (h : slices_Concat_int_int.f k l0 = some r) :
  Calls Try.prog 133 #[.slice A0 l0.length c0] w fun e w' => ∃ v0_ : Value, e = .returned (v0_) ∧ Kd.R (Kd.int .i64) 3 w' w.heap.size (fun _ => True) v0_ r ∧ Below w.heap.size w w' := by
 have HR0 := Aside0.mk hr0
 have HC0 := Aside0.mk hc0
 clear hr0 hc0
 have HB := Aside0.mk (Below.refl w.heap.size w)
 have H : (slices_Concat_int_int.l0 k l0 0 l0 (l0.length : Int) 0) = some r := h
 clear h
 have H' := Aside0.mk H
 clear H
 go_enter Try.func133, Try.ntmps133
 go_wp2
 go_loopg [3, 11] k (fun kq v3 v11 w' => ∃ (x3_1 : Int) (x11_1 : Int), v3 = .int .i64 x3_1 ∧ v11 = .int .i64 x11_1 ∧ Aside0 (slices_Concat_int_int.l0 kq l0 x3_1 l0 (l0.length : Int) x11_1 = some r) ∧ Aside0 (kq ≤ k) ∧ Aside0 (Below w.heap.size w w'))
 case atStart => exact ⟨(0), (0), sqr, sqr, H', ⟨Nat.le_refl _⟩, ⟨sqh⟩⟩
 case round =>
  clear H'; try clear c1
  obtain ⟨x3_1, x11_1, rfl, rfl, HA, HK1, HB⟩ := hrel
  cases gk with
  | zero => exact absurd HA.out (by simp [slices_Concat_int_int.l0])
  | succ k1 =>
   have H := HA.out
   clear HA
   simp only [slices_Concat_int_int.l0] at H
   by_cases c2 : x11_1 < (l0.length : Int)
   ·rw [if_pos c2] at H
    have c2b0 : decide (x11_1 < (l0.length : Int)) = true := decide_eq_true c2
    clear c2
    by_cases c3 : 0 ≤ x11_1
    ·rw [if_pos c3] at H
     have c3b0 : decide (0 ≤ x11_1) = true := decide_eq_true c3
     clear c3
     by_cases c4 : x11_1 < (l0.length : Int)
     ·rw [if_pos c4] at H
      have c4b0 : decide (x11_1 < (l0.length : Int)) = true := decide_eq_true c4
      clear c4
      by_cases c5 : (wrap64 (x3_1 + ((rd_L1 l0 x11_1).length : Int))) < 0
      ·rw [if_pos c5] at H
       exact absurd H (by simp)
      ·rw [if_neg c5] at H
       have c5b0 : decide ((wrap64 (x3_1 + ((rd_L1 l0 x11_1).length : Int))) < 0) = false := decide_eq_false c5
       clear c5
       have H' := Aside0.mk H
       clear H
       have p466 : 0 ≤ (x11_1 : Int) := of_decide_eq_true sqs
       have q466 : x11_1 < (l0.length : Int) := of_decide_eq_true sqs
       obtain ⟨ad466, A466_0, c466_0, e466, hx466_0, hl466_0, hi466_0⟩ := at_L1 HR0.out x11_1 p466 q466
       cases e466
       replace hx466_0 := cl HB hx466_0
       have HR466_0 := Aside0.mk hi466_0
       have HC466_0 := Aside0.mk hl466_0
       clear hi466_0 hl466_0
       replace p466 := eq_true p466
       replace q466 := eq_true q466
       go_wp2
       go_roundg k1
       case measure => have := HK1.out; omega
       case rel => exact ⟨(wrap64 (x3_1 + ((rd_L1 l0 x11_1).length : Int))), (wrap64 (x11_1 + 1)), sqr, sqr, H', ⟨by have := HK1.out; omega⟩, ⟨sqh⟩⟩
     ·rw [if_neg c4] at H
      exact absurd H (by simp)
    ·rw [if_neg c3] at H
     exact absurd H (by simp)
   ·rw [if_neg c2] at H
    have c2b0 : decide (x11_1 < (l0.length : Int)) = false := decide_eq_false c2
    clear c2
    obtain ⟨t467, A6, H⟩ := bA H
    have H' := Aside0.mk H
    clear H
    go_wp2_with (first | ((with_reducible refine gate_callee (f := 143) rfl ?_); refine goesL_ (some 24) rfl rfl Try.func143 sqk rfl #[.slice none 0 0, .int .i64 x3_1] rfl sqm ?_; (refine (slices_Grow_int_int.calls _ _ ([] : List Int) x3_1 t467 _ ?side1 ?side2 A6.out).mono ?_); (case side1 => exact Kd.C_nil _ _); (case side2 => exact Nat.le_refl _); rintro e w7 ⟨v468, rfl, ho0, hb⟩; refine ⟨_, rfl, ?_⟩; have HO469 := Aside0.mk (Kd.R_lower ho0 (below_size sqh)); replace HB := Aside0.mk (below_step sqh hb); (try clear hb); (try clear ho0)))
    go_loopg [6, 27] k1 (fun kq v6 v27 w' => ∃ (x6_2 : List Int) (x27_2 : Int), v27 = .int .i64 x27_2 ∧ Aside0 (slices_Concat_int_int.l1 kq x6_2 l0 (l0.length : Int) x27_2 = some r) ∧ Aside0 (kq ≤ k1) ∧ Aside0 (Kd.R (Kd.int .i64) 3 w' w.heap.size (fun _ => True) v6 x6_2) ∧ Aside0 (Below w.heap.size w w'))
    case atStart => exact ⟨(t467), (0), sqr, H', ⟨Nat.le_refl _⟩, ⟨by (with_reducible repeat (first | apply Kd.R_alloc | apply Kd.R_drewN | apply Kd.R_drew)); exact HO469.out⟩, ⟨sqh⟩⟩
    case round =>
     clear H'; try clear c1; try clear c2; try clear c2b0; try clear p2; try clear c3; try clear c3b0; try clear c4; try clear c4b0; try clear p4; try clear q4; try clear hx4; try clear c5; try clear c5b0; try clear p6; try clear hx466_0; try clear p466; try clear q466
     obtain ⟨x6_2, x27_2, rfl, HA, HK2, HO_6, HB⟩ := hrel
     cases gk with
     | zero => exact absurd HA.out (by simp [slices_Concat_int_int.l1])
     | succ k2 =>
      have H := HA.out
      clear HA
      simp only [slices_Concat_int_int.l1] at H
      by_cases c8 : x27_2 < (l0.length : Int)
      ·rw [if_pos c8] at H
       have c8b0 : decide (x27_2 < (l0.length : Int)) = true := decide_eq_true c8
       clear c8
       by_cases c9 : 0 ≤ x27_2
       ·rw [if_pos c9] at H
        have c9b0 : decide (0 ≤ x27_2) = true := decide_eq_true c9
        clear c9
        by_cases c10 : x27_2 < (l0.length : Int)
        ·rw [if_pos c10] at H
         have c10b0 : decide (x27_2 < (l0.length : Int)) = true := decide_eq_true c10
         clear c10
         by_cases c11 : x6_2.length + (rd_L1 l0 x27_2).length < 17592186044416
         ·rw [if_pos c11] at H
          have LMc11 := Aside0.mk c11
          clear c11
          obtain ⟨y471, hy471⟩ : ∃ y_ : List Int, y_ = (x6_2 ++ (rd_L1 l0 x27_2)) := ⟨_, rfl⟩
          replace H : (slices_Concat_int_int.l1 k2 y471 l0 (l0.length : Int) (wrap64 (x27_2 + 1))) = some r := by first | (rw [hy471]; with_reducible exact H) | (have H2_ := (Option.bind_some _ _).symm.trans H; rw [hy471]; with_reducible exact H2_) | (have H2_ := (Option.bind_some _ _).symm.trans H; with_reducible exact H2_) | with_reducible exact H | (rw [hy471]; exact H) | exact H
          have Ny471 := Aside0.mk hy471
          clear hy471
          have H' := Aside0.mk H
          clear H
          have p470 : 0 ≤ (x27_2 : Int) := of_decide_eq_true sqs
          have q470 : x27_2 < (l0.length : Int) := of_decide_eq_true sqs
          obtain ⟨ad470, A470_0, c470_0, e470, hx470_0, hl470_0, hi470_0⟩ := at_L1 HR0.out x27_2 p470 q470
          cases e470
          replace hx470_0 := cl HB hx470_0
          have HR470_0 := Aside0.mk hi470_0
          have HC470_0 := Aside0.mk hl470_0
          clear hi470_0 hl470_0
          replace p470 := eq_true p470
          replace q470 := eq_true q470
          go_wp2_with (first | ((with_reducible refine gate_builtin (b := .append) (xs := #[.tmp 31, .tmp 32]) rfl ?_); at_builtin; refine Kd.R_append_rows (Kd.int .i64) (w0 := w) w.heap.size rfl (.tmp 31) (.tmp 32) 28 3 (.int .i64 0) 8 rfl Try.underlying28 info3 rfl (by decide) (by omega) u6 x6_2 (rd_L1 l0 x27_2) _ _ _ (fun _ => True) (fun _ => False) rfl rfl ?aO ?aR (fun _ _ h => h) (fun _ h => h.elim) ?aF ?aB ?aS ?aL ?_; (case aR => repeat (first | exact (Kd.C_below HR470_0.out HB.out) | (with_reducible refine Kd.C_alloc ?_ _) | (with_reducible refine Kd.C_drewN ?_ _) | (with_reducible refine Kd.C_drew ?_))); (case aB => exact sqh); (case aF => exact (fun _ _ => trivial)); (case aO => exact (sqq HO_6.out)); (case aS => exact (below_size sqh)); (case aL => have := LMc11.out; omega); intro v472 w12 ho hb hg hat; rw [← Ny471.out] at ho; replace HB := Aside0.mk (hb); have HO473 := Aside0.mk (ho); clear HO_6; clear ho hb hg hat))
          go_roundg k2
          case measure => have := HK1.out; have := HK2.out; omega
          case rel => exact ⟨(y471), (wrap64 (x27_2 + 1)), sqr, H', ⟨by have := HK1.out; have := HK2.out; omega⟩, ⟨by (with_reducible repeat (first | apply Kd.R_alloc | apply Kd.R_drewN | apply Kd.R_drew)); exact HO473.out⟩, ⟨sqh⟩⟩
         ·rw [if_neg c11] at H
          exact absurd H (by simp)
        ·rw [if_neg c10] at H
         exact absurd H (by simp)
       ·rw [if_neg c9] at H
        exact absurd H (by simp)
      ·rw [if_neg c8] at H
       have c8b0 : decide (x27_2 < (l0.length : Int)) = false := decide_eq_false c8
       clear c8
       obtain rfl := Option.some.inj H
       go_wp2
       go_ret
       exact ⟨_, sqe, by (with_reducible repeat (first | apply Kd.R_alloc | apply Kd.R_drewN | apply Kd.R_drew)); exact HO_6.out, sqh⟩

/-! ### impl_KeyedHash: function 90 -/
def impl_KeyedHash.f (k : Nat) (a0 : Int) (l1 : List Int) : Option (Int) := (slices_Concat_int_int.f k (([(([a0] : List Int)), l1, (([a0] : List Int))] : List (List Int)))).bind fun t483 => ((impl_Hash.f k t483).bind fun t486 => (some t486))
theorem z90_0 {Q : Prop} (g : Q := by (with_reducible repeat (first | apply Kd.V_alloc | apply Kd.V_drewN | apply Kd.V_drew)); exact HO1.out) : Q := g
set_option maxHeartbeats 8000000 in
set_option maxRecDepth 100000 in
theorem impl_KeyedHash.calls (k : Nat) (a0 : Int) (P1_ : Nat → Prop) (A1 : Option Addr) (c1 : Nat) (l1 : List Int) (r : Int) (w : World) (hs1 : Kd.V (Kd.int .i64) 3 w w.heap.size (fun k_ => P1_ k_) (.slice A1 l1.length c1) l1) (h : impl_KeyedHash.f k a0 l1 = some r) :
  Calls Try.prog 90 #[.int .i64 a0, .slice A1 l1.length c1] w fun e w' => e = .returned (.int .i64 r) ∧ Below w.heap.size w w' := by
 have HO1 := Aside0.mk (show Kd.V (Kd.int .i64) 3 w w.heap.size (fun k_ => (P1_ k_ ∨ w.heap.size ≤ k_)) (.slice A1 l1.length c1) l1 from Kd.V_mono hs1 (fun k_ hk => .inl hk))
 have HB := Aside0.mk (Below.refl w.heap.size w)
 have H : ((slices_Concat_int_int.f k (([(([a0] : List Int)), l1, (([a0] : List Int))] : List (List Int)))).bind fun t483 => ((impl_Hash.f k t483).bind fun t486 => (some t486))) = some r := h
 clear h
 obtain ⟨y474, hy474⟩ : ∃ y_ : List Int, y_ = (([a0] : List Int)) := ⟨_, rfl⟩
 replace H : ((slices_Concat_int_int.f k (([y474, l1, (([a0] : List Int))] : List (List Int)))).bind fun t483 => ((impl_Hash.f k t483).bind fun t486 => (some t486))) = some r := by first | (rw [hy474]; with_reducible exact H) | (have H2_ := (Option.bind_some _ _).symm.trans H; rw [hy474]; with_reducible exact H2_) | (have H2_ := (Option.bind_some _ _).symm.trans H; with_reducible exact H2_) | with_reducible exact H | (rw [hy474]; exact H) | exact H
 have Ny474 := Aside0.mk hy474
 clear hy474
 obtain ⟨y477, hy477⟩ : ∃ y_ : List Int, y_ = (([a0] : List Int)) := ⟨_, rfl⟩
 replace H : ((slices_Concat_int_int.f k (([y474, l1, y477] : List (List Int)))).bind fun t483 => ((impl_Hash.f k t483).bind fun t486 => (some t486))) = some r := by first | (rw [hy477]; with_reducible exact H) | (have H2_ := (Option.bind_some _ _).symm.trans H; rw [hy477]; with_reducible exact H2_) | (have H2_ := (Option.bind_some _ _).symm.trans H; with_reducible exact H2_) | with_reducible exact H | (rw [hy477]; exact H) | exact H
 have Ny477 := Aside0.mk hy477
 clear hy477
 obtain ⟨y480, hy480⟩ : ∃ y_ : List (List Int), y_ = (([y474, l1, y477] : List (List Int))) := ⟨_, rfl⟩
 replace H : ((slices_Concat_int_int.f k y480).bind fun t483 => ((impl_Hash.f k t483).bind fun t486 => (some t486))) = some r := by first | (rw [hy480]; with_reducible exact H) | (have H2_ := (Option.bind_some _ _).symm.trans H; rw [hy480]; with_reducible exact H2_) | (have H2_ := (Option.bind_some _ _).symm.trans H; with_reducible exact H2_) | with_reducible exact H | (rw [hy480]; exact H) | exact H
 have Ny480 := Aside0.mk hy480
 clear hy480
 obtain ⟨t483, A3, H⟩ := bA H
 obtain ⟨t486, A4, H⟩ := bA H
 obtain rfl := Option.some.inj H
 go_enter Try.func90, Try.ntmps90
 go_wp2_with (first | ((with_reducible refine gate_dst (N := 6) rfl ?_); refine Kd.R_lit (Kd.int .i64) _ 3 ?hg (N := 6) ?hd (xs := ([a0] : List Int)) (inner := [.int .i64 a0]) (ok := fun _ => True) (okp := fun _ => True) ?hr ?hp (fun _ hk => hk) trivial (Below.refl _ _) (Nat.le_refl _) (by simp) ?_; (case hd => rfl); (case hg => rfl); (case hr => first | (go_simp; done) | (go_simp; rfl)); (case hp => exact (Reps.one (show Kd.M (Kd.int .i64) _ _ _ a0 [.int .i64 a0] from rfl) (Reps.none _ _))); intro v475 w5 ho6 hb hg_ hnew_; clear hg_ hnew_; (first | rw [← Ny474.out] at ho6 | (simp only [Int.reduceToNat] at ho6; rw [← Ny474.out] at ho6)); replace HO1 := Aside0.mk (Kd.V_elder' z90_0 (Kd.R_base ho6) hb); have HO476 := Aside0.mk (Kd.R_lower (Kd.R_newM (M := fun k_ => (w.heap.size ≤ k_)) ho6 (below_size sqh) (fun k_ h_ => h_)) (below_size sqh)); replace HB := Aside0.mk (below_step sqh hb); clear hb ho6) | ((with_reducible refine gate_dst (N := 9) rfl ?_); refine Kd.R_lit (Kd.int .i64) _ 3 ?hg (N := 9) ?hd (xs := ([a0] : List Int)) (inner := [.int .i64 a0]) (ok := fun _ => True) (okp := fun _ => True) ?hr ?hp (fun _ hk => hk) trivial (Below.refl _ _) (Nat.le_refl _) (by simp) ?_; (case hd => rfl); (case hg => rfl); (case hr => first | (go_simp; done) | (go_simp; rfl)); (case hp => exact (Reps.one (show Kd.M (Kd.int .i64) _ _ _ a0 [.int .i64 a0] from rfl) (Reps.none _ _))); intro v478 w7 ho8 hb hg_ hnew_; clear hg_ hnew_; (first | rw [← Ny477.out] at ho8 | (simp only [Int.reduceToNat] at ho8; rw [← Ny477.out] at ho8)); replace HO1 := Aside0.mk (Kd.V_elder' z90_0 (Kd.R_base ho8) hb); have HO479 := Aside0.mk (Kd.R_lower (Kd.R_new' (Kd.R_newM (M := fun k_ => (w.heap.size ≤ k_)) ho8 (below_size sqh) (fun k_ h_ => h_)) (Kd.R_lt (sqq HO476.out))) (below_size sqh)); replace HO476 := Aside0.mk (Kd.R_elder' (sqq HO476.out) (Kd.R_base ho8) hb); replace HB := Aside0.mk (below_step sqh hb); clear hb ho8; obtain ⟨Ao9, co9, eo9⟩ := Kd.R_slice HO476.out; subst eo9; obtain ⟨Ao10, co10, eo10⟩ := Kd.R_slice HO479.out; subst eo10) | ((with_reducible refine gate_dst (N := 10) rfl ?_); refine Kd.N_lit (Kd.slice 3 (Kd.int .i64)) _ 28 ?hg (N' := 10) ?hd (xs := ([y474, l1, y477] : List (List Int))) (inner := [.slice Ao9 y474.length co9, .slice A1 l1.length c1, .slice Ao10 y477.length co10]) (ok := (fun k_ => (P1_ k_ ∨ w.heap.size ≤ k_))) (okp := (fun k_ => (P1_ k_ ∨ w.heap.size ≤ k_))) ?hr ?hp (fun _ hk => hk) ((show ∀ k_, w7.heap.size ≤ k_ → (fun k_ => (P1_ k_ ∨ w.heap.size ≤ k_)) k_ from fun k_ hk => (.inr (Nat.le_trans (below_size sqh) hk))) _ (Nat.le_refl _)) (Below.refl _ _) (Nat.le_refl _) (by simp) ?_; (case hd => rfl); (case hg => rfl); (case hr => first | (go_simp; done) | (go_simp; rfl)); (case hp => exact (Reps.one (show Kd.FK (Kd.slice 3 (Kd.int .i64)) _ _ y474 [.slice Ao9 y474.length co9] from (Kd.FK_slice_mk (Kd.R_reads' (Kd.R_mono (ok' := (fun k_ => (P1_ k_ ∨ w.heap.size ≤ k_))) (HO476.out) (fun k_ hk => (.inr (hk.1.1))))).2.1 (Kd.R_F (Kd.R_mono (ok' := (fun k_ => (P1_ k_ ∨ w.heap.size ≤ k_))) (HO476.out) (fun k_ hk => (.inr (hk.1.1))))))) (Reps.one (show Kd.FK (Kd.slice 3 (Kd.int .i64)) _ _ l1 [.slice A1 l1.length c1] from (Kd.FK_slice_mk (Kd.V_reads' (Kd.V_mono (ok' := (fun k_ => (P1_ k_ ∨ w.heap.size ≤ k_))) (HO1.out) (fun k_ hk => hk.1.1))).2.1 (Kd.V_F (Kd.V_mono (ok' := (fun k_ => (P1_ k_ ∨ w.heap.size ≤ k_))) (HO1.out) (fun k_ hk => hk.1.1))))) (Reps.one (show Kd.FK (Kd.slice 3 (Kd.int .i64)) _ _ y477 [.slice Ao10 y477.length co10] from (Kd.FK_slice_mk (Kd.R_reads' (Kd.R_mono (ok' := (fun k_ => (P1_ k_ ∨ w.heap.size ≤ k_))) (HO479.out) (fun k_ hk => (.inr (hk.1.1))))).2.1 (Kd.R_F (Kd.R_mono (ok' := (fun k_ => (P1_ k_ ∨ w.heap.size ≤ k_))) (HO479.out) (fun k_ hk => (.inr (hk.1.1))))))) (Reps.none _ _))))); intro v481 w11 ho12 hb hg_ hnew_; clear hg_ hnew_; (first | rw [← Ny480.out] at ho12 | (simp only [Int.reduceToNat] at ho12; rw [← Ny480.out] at ho12)); replace HO1 := Aside0.mk (Kd.V_elder' z90_0 (Kd.N_base ho12) hb); have HO482 := Aside0.mk (Kd.N_lower ho12 (below_size sqh)); replace HB := Aside0.mk (below_step sqh hb); clear HO476 HO479; clear hb ho12; obtain ⟨Ao13, co13, eo13⟩ := Kd.N_slice HO482.out; subst eo13) | ((with_reducible refine gate_callee (f := 133) rfl ?_); refine goesL_ (some 11) rfl rfl Try.func133 sqk rfl #[.slice Ao13 y480.length co13] rfl sqm ?_; (with_reducible refine (slices_Concat_int_int.calls k _ _ y480 t483 _ ?side1 ?side2 A3.out).mono ?_); (case side1 => repeat (first | exact (Kd.N_reads' HO482.out).2.2 | (with_reducible refine Kd.C_alloc ?_ _) | (with_reducible refine Kd.C_drewN ?_ _) | (with_reducible refine Kd.C_drew ?_))); (case side2 => exact (Kd.N_reads' HO482.out).2.1); rintro e w14 ⟨v484, rfl, ho0, hb⟩; refine ⟨_, rfl, ?_⟩; replace HO1 := Aside0.mk (Kd.V_elder' z90_0 (Kd.R_base ho0) hb); replace HO482 := Aside0.mk (Kd.N_elder' (by (with_reducible repeat (first | apply Kd.N_alloc | apply Kd.N_drewN | apply Kd.N_drew)); exact HO482.out) (Kd.R_base ho0) hb); have HO485 := Aside0.mk (Kd.R_lower (Kd.R_newM (M := fun k_ => (w.heap.size ≤ k_)) ho0 (below_size sqh) (fun k_ h_ => h_)) (below_size sqh)); replace HB := Aside0.mk (below_step sqh hb); (try clear hb); (try clear ho0); obtain ⟨Ao15, co15, eo15⟩ := Kd.R_slice HO485.out; subst eo15) | ((with_reducible refine gate_callee (f := 106) rfl ?_); refine goesL_ (some 12) rfl rfl Try.func106 sqk rfl #[.slice Ao15 t483.length co15] rfl sqm ?_; (with_reducible refine (impl_Hash.calls k _ _ t483 t486 _ ?side1 ?side2 A4.out).mono ?_); (case side1 => repeat (first | exact (Kd.R_reads' HO485.out).2.2 | (with_reducible refine Kd.C_alloc ?_ _) | (with_reducible refine Kd.C_drewN ?_ _) | (with_reducible refine Kd.C_drew ?_))); (case side2 => exact (Kd.R_reads' HO485.out).2.1); rintro e w' ⟨rfl, ⟨nd, rfl⟩⟩; refine ⟨_, rfl, ?_⟩))
 go_ret
 exact ⟨sqe, sqh⟩

/-! ### impl_MakeQuote: function 34 -/
def impl_MakeQuote.j0 : Nat → Int → Int → List Int → Int → Int → Bool → Option (Int × Int × Int × Int × Int × Bool)
 | 0, _, _, _, _, _, _ => none
 | k + 1, x0, x1, x2, x3, x4, x30 => if x30 = true then (some (0, 0, 0, 0, 0, false)) else ((impl_RegisterOf.f k x2).bind fun t492 => ((impl_KeyedHash.f k x0 (([x1, t492, x3, x4] : List Int))).bind fun t496 => (some (x1, t492, x3, x4, t496, true))))
def impl_MakeQuote.f (k : Nat) (a0 : Int) (a1 : Int) (l2 : List Int) (a3 : Int) (a4 : Int) : Option (Int × Int × Int × Int × Int × Bool) := (impl_IsValidKey.f a0).bind fun t488 => (if t488 = true then ((impl_HasKind.f a1 2).bind fun t489 => (if t489 = true then ((impl_IsLog.f l2).bind fun t490 => (if t490 = true then ((impl_IsTime.f a4).bind fun t491 => (impl_MakeQuote.j0 k a0 a1 l2 a3 a4 (!t491))) else (impl_MakeQuote.j0 k a0 a1 l2 a3 a4 true))) else (impl_MakeQuote.j0 k a0 a1 l2 a3 a4 true))) else (impl_MakeQuote.j0 k a0 a1 l2 a3 a4 true))
set_option maxHeartbeats 8000000 in
set_option maxRecDepth 100000 in
theorem impl_MakeQuote.calls (k : Nat) (a0 : Int) (a1 : Int) (A2 : Option Addr) (c2 : Nat) (l2 : List Int) (a3 : Int) (a4 : Int) (r1 : Int) (r2 : Int) (r3 : Int) (r4 : Int) (r5 : Int) (r6 : Bool) (w : World) (hr2 : Kd.C (Kd.int .i64) w A2 l2.length l2) (hc2 : l2.length ≤ c2) (h : impl_MakeQuote.f k a0 a1 l2 a3 a4 = some (r1, r2, r3, r4, r5, r6)) :
  Calls Try.prog 34 #[.int .i64 a0, .int .i64 a1, .slice A2 l2.length c2, .int .i64 a3, .int .i64 a4] w fun e w' => e = .returned (.tuple #[.agg #[.int .i64 r1, .int .i64 r2, .int .i64 r3, .int .i64 r4, .int .i64 r5], .bool r6]) ∧ Below w.heap.size w w' := by
 have hu45 := Try.underlying45
 have HR2 := Aside0.mk hr2
 have HC2 := Aside0.mk hc2
 clear hr2 hc2
 have HB := Aside0.mk (Below.refl w.heap.size w)
 have H : ((impl_IsValidKey.f a0).bind fun t488 => (if t488 = true then ((impl_HasKind.f a1 2).bind fun t489 => (if t489 = true then ((impl_IsLog.f l2).bind fun t490 => (if t490 = true then ((impl_IsTime.f a4).bind fun t491 => (impl_MakeQuote.j0 k a0 a1 l2 a3 a4 (!t491))) else (impl_MakeQuote.j0 k a0 a1 l2 a3 a4 true))) else (impl_MakeQuote.j0 k a0 a1 l2 a3 a4 true))) else (impl_MakeQuote.j0 k a0 a1 l2 a3 a4 true))) = some (r1, r2, r3, r4, r5, r6) := h
 clear h
 have HC6 := Aside0.mk H
 clear H
 go_enter Try.func34, Try.ntmps34
 go_upto_region 1 with (first | ((with_reducible refine gate_dst (N := 10) rfl ?_); refine bx (N := 10) (cs := #[.int .i64 0, .int .i64 0, .int .i64 0, .int .i64 0, .int .i64 0]) (t := 45) ?_; intro gb487 hg w7 hbox hb; have BK487 := Aside0.mk (hbox); have GW487 := Aside0.mk ((by rw [hg]; exact (below_size sqh) : w.heap.size ≤ gb487)); have GE487 := Aside0.mk ((by rw [hg]; exact (below_size sqh) : w.heap.size ≤ gb487)); replace HB := Aside0.mk (below_step sqh hb); clear hb hbox hg))
 (try simp only [Act.put, List.setIfInBounds_toArray, List.set_cons_zero, List.set_cons_succ])
 go_cut [30] (fun v30 wc => ∃ (kq : Nat) (x30_5 : Bool), v30 = .bool x30_5 ∧ Aside0 (impl_MakeQuote.j0 kq a0 a1 l2 a3 a4 x30_5 = some (r1, r2, r3, r4, r5, r6)) ∧ Aside0 (kq ≤ k) ∧ Aside0 (wc.heap[gb487]? = some (.cells #[.int .i64 0, .int .i64 0, .int .i64 0, .int .i64 0, .int .i64 0] 45 (0, 0))) ∧ Aside0 (Below w.heap.size w wc))
 case first =>
  have H := HC6.out
  clear HC6
  obtain ⟨t488, A8, H⟩ := bA H
  by_cases c9 : t488 = true
  ·subst c9
   replace H := iT H
   obtain ⟨t489, A10, H⟩ := bA H
   by_cases c11 : t489 = true
   ·subst c11
    replace H := iT H
    obtain ⟨t490, A12, H⟩ := bA H
    by_cases c13 : t490 = true
    ·subst c13
     replace H := iT H
     obtain ⟨t491, A14, H⟩ := bA H
     have H' := Aside0.mk H
     clear H
     go_wp2_with (first | ((with_reducible refine gate_callee (f := 87) rfl ?_); refine goesL_ (some 14) rfl rfl Try.func87 sqk rfl #[.int .i64 a0] rfl sqm ?_; (with_reducible refine (impl_IsValidKey.calls a0 true _ A8.out).mono ?_); rintro e w' ⟨rfl, ⟨nd, rfl⟩⟩; refine ⟨_, rfl, ?_⟩) | (go_at_call 88; (with_reducible refine (impl_HasKind.calls a1 2 true _ A10.out).mono ?_); rintro e w' ⟨rfl, ⟨nd, rfl⟩⟩) | (go_at_call 60; (with_reducible refine (impl_IsLog.calls _ _ l2 true _ ?side1 ?side2 A12.out).mono ?_); (case side1 => repeat (first | exact (Kd.C_below HR2.out sqh) | (with_reducible refine Kd.C_alloc ?_ _) | (with_reducible refine Kd.C_drewN ?_ _) | (with_reducible refine Kd.C_drew ?_))); (case side2 => exact HC2.out); rintro e w15 ⟨rfl, hb⟩; replace BK487 := Aside0.mk (blk_below (bo BK487) hb); replace HB := Aside0.mk (below_step sqh hb); (try clear hb)) | (go_at_call 89; (with_reducible refine (impl_IsTime.calls a4 t491 _ A14.out).mono ?_); rintro e w' ⟨rfl, ⟨nd, rfl⟩⟩))
     go_meet
     case rel => exact ⟨_, (!t491), sqr, H', ⟨sqo⟩, ⟨sqb BK487.out⟩, ⟨sqh⟩⟩
    ·replace c13 := Bool.eq_false_iff.mpr c13
     subst c13
     replace H := iF H
     have H' := Aside0.mk H
     clear H
     go_wp2_with (first | ((with_reducible refine gate_callee (f := 87) rfl ?_); refine goesL_ (some 14) rfl rfl Try.func87 sqk rfl #[.int .i64 a0] rfl sqm ?_; (with_reducible refine (impl_IsValidKey.calls a0 true _ A8.out).mono ?_); rintro e w' ⟨rfl, ⟨nd, rfl⟩⟩; refine ⟨_, rfl, ?_⟩) | (go_at_call 88; (with_reducible refine (impl_HasKind.calls a1 2 true _ A10.out).mono ?_); rintro e w' ⟨rfl, ⟨nd, rfl⟩⟩) | (go_at_call 60; (with_reducible refine (impl_IsLog.calls _ _ l2 false _ ?side1 ?side2 A12.out).mono ?_); (case side1 => repeat (first | exact (Kd.C_below HR2.out sqh) | (with_reducible refine Kd.C_alloc ?_ _) | (with_reducible refine Kd.C_drewN ?_ _) | (with_reducible refine Kd.C_drew ?_))); (case side2 => exact HC2.out); rintro e w16 ⟨rfl, hb⟩; replace BK487 := Aside0.mk (blk_below (bo BK487) hb); replace HB := Aside0.mk (below_step sqh hb); (try clear hb)))
     go_meet
     case rel => exact ⟨_, (true), sqr, H', ⟨sqo⟩, ⟨sqb BK487.out⟩, ⟨sqh⟩⟩
   ·replace c11 := Bool.eq_false_iff.mpr c11
    subst c11
    replace H := iF H
    have H' := Aside0.mk H
    clear H
    go_wp2_with (first | ((with_reducible refine gate_callee (f := 87) rfl ?_); refine goesL_ (some 14) rfl rfl Try.func87 sqk rfl #[.int .i64 a0] rfl sqm ?_; (with_reducible refine (impl_IsValidKey.calls a0 true _ A8.out).mono ?_); rintro e w' ⟨rfl, ⟨nd, rfl⟩⟩; refine ⟨_, rfl, ?_⟩) | (go_at_call 88; (with_reducible refine (impl_HasKind.calls a1 2 false _ A10.out).mono ?_); rintro e w' ⟨rfl, ⟨nd, rfl⟩⟩))
    go_meet
    case rel => exact ⟨_, (true), sqr, H', ⟨sqo⟩, ⟨sqb BK487.out⟩, ⟨sqh⟩⟩
  ·replace c9 := Bool.eq_false_iff.mpr c9
   subst c9
   replace H := iF H
   have H' := Aside0.mk H
   clear H
   go_wp2_with (first | ((with_reducible refine gate_callee (f := 87) rfl ?_); refine goesL_ (some 14) rfl rfl Try.func87 sqk rfl #[.int .i64 a0] rfl sqm ?_; (with_reducible refine (impl_IsValidKey.calls a0 false _ A8.out).mono ?_); rintro e w' ⟨rfl, ⟨nd, rfl⟩⟩; refine ⟨_, rfl, ?_⟩))
   go_meet
   case rel => exact ⟨_, (true), sqr, H', ⟨sqo⟩, ⟨sqb BK487.out⟩, ⟨sqh⟩⟩
 case rest =>
  clear HC6; try clear c1; try clear c2; try clear p2; try clear c3; try clear c8; try clear c9; try clear c11; try clear c13
  obtain ⟨kq, x30_5, rfl, HA, HJ5, BK487, HB⟩ := hcut
  cases kq with
  | zero => exact absurd HA.out (by simp [impl_MakeQuote.j0])
  | succ kj5 =>
   have H := HA.out
   clear HA
   simp only [impl_MakeQuote.j0] at H
   by_cases c17 : x30_5 = true
   ·subst c17
    replace H := iT H
    simp only [Option.some.injEq, Prod.mk.injEq] at H
    obtain ⟨rfl, rfl, rfl, rfl, rfl, rfl⟩ := H
    obtain ⟨hcz18_0, hcz18_1, hcz18_2, hcz18_3, hcz18_4, hfz18_0, hfz18_1, hfz18_2, hfz18_3, hfz18_4⟩ := sd5 BK487.out
    go_wp2
    refine bodyPost_ret (results_ct rfl _ _ gb487 45 #[.int .i64 0, .int .i64 0, .int .i64 0, .int .i64 0, .int .i64 0] (0, 0) _ rfl ?_ Try.underlying45 rfl sqk) rfl ?_; exact bp BK487
    exact ⟨sqe, sqh⟩
   ·replace c17 := Bool.eq_false_iff.mpr c17
    subst c17
    replace H := iF H
    obtain ⟨t492, A19, H⟩ := bA H
    obtain ⟨y493, hy493⟩ : ∃ y_ : List Int, y_ = (([a1, t492, a3, a4] : List Int)) := ⟨_, rfl⟩
    replace H : ((impl_KeyedHash.f kj5 a0 y493).bind fun t496 => (some (a1, t492, a3, a4, t496, true))) = some (r1, r2, r3, r4, r5, r6) := by first | (rw [hy493]; with_reducible exact H) | (have H2_ := (Option.bind_some _ _).symm.trans H; rw [hy493]; with_reducible exact H2_) | (have H2_ := (Option.bind_some _ _).symm.trans H; with_reducible exact H2_) | with_reducible exact H | (rw [hy493]; exact H) | exact H
    have Ny493 := Aside0.mk hy493
    clear hy493
    obtain ⟨t496, A20, H⟩ := bA H
    simp only [Option.some.injEq, Prod.mk.injEq] at H
    obtain ⟨rfl, rfl, rfl, rfl, rfl, rfl⟩ := H
    go_wp2_with (first | ((with_reducible refine gate_callee (f := 45) rfl ?_); refine goesL_ (some 33) rfl rfl Try.func45 sqk rfl #[.slice A2 l2.length c2] rfl sqm ?_; (with_reducible refine (impl_RegisterOf.calls kj5 _ _ l2 t492 _ ?side1 ?side2 A19.out).mono ?_); (case side1 => exact sqn (Kd.C_below HR2.out HB.out)); (case side2 => exact HC2.out); rintro e w21 ⟨rfl, hb⟩; refine ⟨_, rfl, ?_⟩; replace BK487 := Aside0.mk (blk_below (bo BK487) hb); replace HB := Aside0.mk (below_step sqh hb); (try clear hb)) | ((with_reducible refine gate_dst (N := 43) rfl ?_); refine Kd.R_lit (Kd.int .i64) _ 3 ?hg (N := 43) ?hd (xs := ([a1, t492, a3, a4] : List Int)) (inner := [.int .i64 a1, .int .i64 t492, .int .i64 a3, .int .i64 a4]) (ok := fun _ => True) (okp := fun _ => True) ?hr ?hp (fun _ hk => hk) trivial (Below.refl _ _) (Nat.le_refl _) (by simp) ?_; (case hd => rfl); (case hg => rfl); (case hr => first | (go_simp; done) | (go_simp; rfl)); (case hp => exact (Reps.one (show Kd.M (Kd.int .i64) _ _ _ a1 [.int .i64 a1] from rfl) (Reps.one (show Kd.M (Kd.int .i64) _ _ _ t492 [.int .i64 t492] from rfl) (Reps.one (show Kd.M (Kd.int .i64) _ _ _ a3 [.int .i64 a3] from rfl) (Reps.one (show Kd.M (Kd.int .i64) _ _ _ a4 [.int .i64 a4] from rfl) (Reps.none _ _)))))); intro v494 w22 ho23 hb hg_ hnew_; clear hg_ hnew_; (first | rw [← Ny493.out] at ho23 | (simp only [Int.reduceToNat] at ho23; rw [← Ny493.out] at ho23)); have HO495 := Aside0.mk (Kd.R_lower ho23 (below_size sqh)); replace BK487 := Aside0.mk (blk_below (bo BK487) hb); replace HB := Aside0.mk (below_step sqh hb); clear hb ho23; obtain ⟨Ao24, co24, eo24⟩ := Kd.R_slice HO495.out; subst eo24) | ((with_reducible refine gate_callee (f := 90) rfl ?_); refine goesL_ (some 44) rfl rfl Try.func90 sqk rfl #[.int .i64 a0, .slice Ao24 y493.length co24] rfl sqm ?_; (with_reducible refine (impl_KeyedHash.calls kj5 a0 (fun k_ => some k_ = (.slice Ao24 y493.length co24 : Value).ownBlock) _ _ y493 t496 _ ?side1 A20.out).mono ?_); (case side1 => exact Kd.R_V (Kd.R_tight rfl (Kd.R_types (HO495.out) BK487.out (by decide)))); rintro e w25 ⟨rfl, hb⟩; refine ⟨_, rfl, ?_⟩; replace HO495 := Aside0.mk (Kd.R_below (sqq HO495.out) hb); replace BK487 := Aside0.mk (blk_below (bo BK487) hb); replace HB := Aside0.mk (below_step sqh hb); (try clear hb); obtain ⟨hcz26_0, hcz26_1, hcz26_2, hcz26_3, hcz26_4, hfz26_0, hfz26_1, hfz26_2, hfz26_3, hfz26_4⟩ := sd5 BK487.out))
    refine bodyPost_ret (results_ct rfl _ _ gb487 45 #[.int .i64 a1, .int .i64 t492, .int .i64 a3, .int .i64 a4, .int .i64 t496] (0, 0) _ rfl ?_ Try.underlying45 rfl sqk) rfl ?_; exact bp BK487
    exact ⟨sqe, sqh⟩

/-! ### impl_AgeOf: function 121 -/
def impl_AgeOf.f (a0 : Int) (a1 : Int) : Option (Int) := (impl_IsTime.f a0).bind fun t497 => (if t497 = true then ((impl_IsTime.f a1).bind fun t498 => (if t498 = true then (if a0 > a1 then (some (-1)) else (some (wrap64 (a1 - a0)))) else (some (-1)))) else (some (-1)))
set_option maxRecDepth 100000 in
theorem zl121 {Q : Prop} (g : Q := by go_enter Try.func121, Try.ntmps121; go_wp2_with (first | ((with_reducible refine gate_callee (f := 89) rfl ?_); refine goesL_ (some 6) rfl rfl Try.func89 sqk rfl #[.int .i64 a0] rfl sqm ?_; (with_reducible refine (impl_IsTime.calls a0 true _ A3.out).mono ?_); rintro e w' ⟨rfl, ⟨nd, rfl⟩⟩; refine ⟨_, rfl, ?_⟩) | (go_at_call 89; (with_reducible refine (impl_IsTime.calls a1 true _ A5.out).mono ?_); rintro e w' ⟨rfl, ⟨nd, rfl⟩⟩) | (go_at_call 89; (with_reducible refine (impl_IsTime.calls a1 false _ A5.out).mono ?_); rintro e w' ⟨rfl, ⟨nd, rfl⟩⟩) | ((with_reducible refine gate_callee (f := 89) rfl ?_); refine goesL_ (some 6) rfl rfl Try.func89 sqk rfl #[.int .i64 a0] rfl sqm ?_; (with_reducible refine (impl_IsTime.calls a0 false _ A3.out).mono ?_); rintro e w' ⟨rfl, ⟨nd, rfl⟩⟩; refine ⟨_, rfl, ?_⟩)); go_ret; exact ⟨sqr, by repeat (first | exact Drawn0.refl _ | apply Drawn0.step)⟩) : Q := g
set_option maxHeartbeats 8000000 in
set_option maxRecDepth 100000 in
theorem impl_AgeOf.calls (a0 : Int) (a1 : Int) (r : Int) (w : World) (h : impl_AgeOf.f a0 a1 = some r) :
  Calls Try.prog 121 #[.int .i64 a0, .int .i64 a1] w fun e w' => e = .returned (.int .i64 r) ∧ Drawn0 w w' := by
 have H : ((impl_IsTime.f a0).bind fun t497 => (if t497 = true then ((impl_IsTime.f a1).bind fun t498 => (if t498 = true then (if a0 > a1 then (some (-1)) else (some (wrap64 (a1 - a0)))) else (some (-1)))) else (some (-1)))) = some r := h
 clear h
 obtain ⟨t497, A3, H⟩ := bA H
 by_cases c4 : t497 = true
 ·subst c4
  replace H := iT H
  obtain ⟨t498, A5, H⟩ := bA H
  by_cases c6 : t498 = true
  ·subst c6
   replace H := iT H
   by_cases c7 : a0 > a1
   ·rw [if_pos c7] at H
    have c7b0 : decide (a1 < a0) = true := decide_eq_true c7
    clear c7
    obtain rfl := Option.some.inj H
    exact zl121
   ·rw [if_neg c7] at H
    have c7b0 : decide (a1 < a0) = false := decide_eq_false c7
    clear c7
    obtain rfl := Option.some.inj H
    exact zl121
  ·replace c6 := Bool.eq_false_iff.mpr c6
   subst c6
   replace H := iF H
   obtain rfl := Option.some.inj H
   exact zl121
 ·replace c4 := Bool.eq_false_iff.mpr c4
  subst c4
  replace H := iF H
  obtain rfl := Option.some.inj H
  exact zl121

/-! ### impl_IsFresh: function 92 -/
def impl_IsFresh.f (a0 : Int) (a1 : Int) (a2 : Int) : Option (Bool) := (impl_AgeOf.f a0 a1).bind fun t499 => (if t499 = (-1) then (some false) else (some (decide (t499 ≤ a2))))
set_option maxHeartbeats 8000000 in
set_option maxRecDepth 100000 in
theorem impl_IsFresh.calls (a0 : Int) (a1 : Int) (a2 : Int) (r : Bool) (w : World) (h : impl_IsFresh.f a0 a1 a2 = some r) :
  Calls Try.prog 92 #[.int .i64 a0, .int .i64 a1, .int .i64 a2] w fun e w' => e = .returned (.bool r) ∧ Drawn0 w w' := by
 have H : ((impl_AgeOf.f a0 a1).bind fun t499 => (if t499 = (-1) then (some false) else (some (decide (t499 ≤ a2))))) = some r := h
 clear h
 obtain ⟨t499, A4, H⟩ := bA H
 by_cases c5 : t499 = (-1)
 ·rw [if_pos c5] at H
  have c5b0 : (t499 == (-1)) = true := beq_iff_eq.mpr c5
  have c5b1 : (t499 != (-1)) = false := bne_eq_false_iff_eq.mpr c5
  clear c5
  obtain rfl := Option.some.inj H
  go_enter Try.func92, Try.ntmps92
  go_wp2_with (first | ((with_reducible refine gate_callee (f := 121) rfl ?_); refine goesL_ (some 10) rfl rfl Try.func121 sqk rfl #[.int .i64 a0, .int .i64 a1] rfl sqm ?_; (with_reducible refine (impl_AgeOf.calls a0 a1 t499 _ A4.out).mono ?_); rintro e w' ⟨rfl, ⟨nd, rfl⟩⟩; refine ⟨_, rfl, ?_⟩))
  go_ret
  exact ⟨sqr, by repeat (first | exact Drawn0.refl _ | apply Drawn0.step)⟩
 ·rw [if_neg c5] at H
  have c5b0 : (t499 == (-1)) = false := beq_eq_false_iff_ne.mpr c5
  have c5b1 : (t499 != (-1)) = true := bne_iff_ne.mpr c5
  obtain rfl := Option.some.inj H
  go_enter Try.func92, Try.ntmps92
  go_wp2_with (first | ((with_reducible refine gate_callee (f := 121) rfl ?_); refine goesL_ (some 10) rfl rfl Try.func121 sqk rfl #[.int .i64 a0, .int .i64 a1] rfl sqm ?_; (with_reducible refine (impl_AgeOf.calls a0 a1 t499 _ A4.out).mono ?_); rintro e w' ⟨rfl, ⟨nd, rfl⟩⟩; refine ⟨_, rfl, ?_⟩))
  go_ret
  exact ⟨sqr, by repeat (first | exact Drawn0.refl _ | apply Drawn0.step)⟩

/-! ### impl_CheckQuote: function 38 -/
def impl_CheckQuote.f (k : Nat) (a0 : Int) (a1_0 : Int) (a1_1 : Int) (a1_2 : Int) (a1_3 : Int) (a1_4 : Int) (l2 : List Int) (a3 : Int) (a4 : Int) (a5 : Int) : Option (Bool) := (impl_MakeQuote.f k a0 a1_0 l2 a3 a1_3).bind fun bt501 => (if bt501.2.2.2.2.2 = true then (if (bt501.1 == a1_0 && (bt501.2.1 == a1_1 && (bt501.2.2.1 == a1_2 && (bt501.2.2.2.1 == a1_3 && (bt501.2.2.2.2.1 == a1_4))))) = true then ((impl_IsFresh.f a1_3 a4 a5).bind fun t508 => (some t508)) else (some false)) else (some false))
theorem z38_0 {Q : Prop} (g : Q := by rw [hg]; exact (below_size sqh)) : Q := g
set_option maxHeartbeats 8000000 in
set_option maxRecDepth 100000 in
theorem impl_CheckQuote.calls (k : Nat) (a0 : Int) (a1_0 : Int) (a1_1 : Int) (a1_2 : Int) (a1_3 : Int) (a1_4 : Int) (A2 : Option Addr) (c2 : Nat) (l2 : List Int) (a3 : Int) (a4 : Int) (a5 : Int) (r : Bool) (w : World) (hr2 : Kd.C (Kd.int .i64) w A2 l2.length l2) (hc2 : l2.length ≤ c2) (h : impl_CheckQuote.f k a0 a1_0 a1_1 a1_2 a1_3 a1_4 l2 a3 a4 a5 = some r) :
  Calls Try.prog 38 #[.int .i64 a0, .agg #[.int .i64 a1_0, .int .i64 a1_1, .int .i64 a1_2, .int .i64 a1_3, .int .i64 a1_4], .slice A2 l2.length c2, .int .i64 a3, .int .i64 a4, .int .i64 a5] w fun e w' => e = .returned (.bool r) ∧ Below w.heap.size w w' := by
 have hu45 := Try.underlying45
 have HR2 := Aside0.mk hr2
 have HC2 := Aside0.mk hc2
 clear hr2 hc2
 have HB := Aside0.mk (Below.refl w.heap.size w)
 have H : ((impl_MakeQuote.f k a0 a1_0 l2 a3 a1_3).bind fun bt501 => (if bt501.2.2.2.2.2 = true then (if (bt501.1 == a1_0 && (bt501.2.1 == a1_1 && (bt501.2.2.1 == a1_2 && (bt501.2.2.2.1 == a1_3 && (bt501.2.2.2.2.1 == a1_4))))) = true then ((impl_IsFresh.f a1_3 a4 a5).bind fun t508 => (some t508)) else (some false)) else (some false))) = some r := h
 clear h
 obtain ⟨⟨t501, t502, t503, t504, t505, t506⟩, A7, H⟩ := bA H
 dsimp only at H
 by_cases c8 : t506 = true
 ·subst c8
  replace H := iT H
  by_cases c9 : (t501 == a1_0 && (t502 == a1_1 && (t503 == a1_2 && (t504 == a1_3 && (t505 == a1_4))))) = true
  ·rw [if_pos c9] at H
   have c9b0 : (t501 == a1_0 && (t502 == a1_1 && (t503 == a1_2 && (t504 == a1_3 && (t505 == a1_4))))) = true := c9
   (try (have c9b1 : decide (t501 = a1_0 && (t502 == a1_1 && (t503 == a1_2 && (t504 == a1_3 && (t505 == a1_4))))) = true := by simpa using c9))
   (try (have c9b2 : (t501 == a1_0 && (t502 == a1_1 && (t503 == a1_2 && (t504 == a1_3 && (t505 == a1_4))))) = true := by simpa using c9))
   clear c9
   obtain ⟨t508, A10, H⟩ := bA H
   obtain rfl := Option.some.inj H
   go_enter Try.func38, Try.ntmps38
   go_wp2_with (first | ((with_reducible refine gate_dst (N := 7) rfl ?_); refine bx (N := 7) (cs := #[.int .i64 a1_0, .int .i64 a1_1, .int .i64 a1_2, .int .i64 a1_3, .int .i64 a1_4]) (t := 45) ?_; intro gb500 hg w11 hbox hb; have BK500 := Aside0.mk (hbox); have GW500 := Aside0.mk ((z38_0 : w.heap.size ≤ gb500)); have GE500 := Aside0.mk ((z38_0 : w.heap.size ≤ gb500)); replace HB := Aside0.mk (below_step sqh hb); clear hb hbox hg; obtain ⟨hcz12_0, hcz12_1, hcz12_2, hcz12_3, hcz12_4, hfz12_0, hfz12_1, hfz12_2, hfz12_3, hfz12_4⟩ := sd5 BK500.out) | ((with_reducible refine gate_callee (f := 34) rfl ?_); refine goesL_ (some 23) rfl rfl Try.func34 sqk rfl #[.int .i64 a0, .int .i64 a1_0, .slice A2 l2.length c2, .int .i64 a3, .int .i64 a1_3] rfl sqm ?_; (with_reducible refine (impl_MakeQuote.calls k a0 a1_0 _ _ l2 a3 a1_3 t501 t502 t503 t504 t505 true _ ?side1 ?side2 A7.out).mono ?_); (case side1 => exact sqn (Kd.C_below HR2.out HB.out)); (case side2 => exact HC2.out); rintro e w13 ⟨rfl, hb⟩; refine ⟨_, rfl, ?_⟩; replace BK500 := Aside0.mk (blk_below (bo BK500) hb); replace HB := Aside0.mk (below_step sqh hb); (try clear hb)) | ((with_reducible refine gate_dst (N := 13) rfl ?_); refine bx (N := 13) (cs := #[.int .i64 0, .int .i64 0, .int .i64 0, .int .i64 0, .int .i64 0]) (t := 45) ?_; intro gb507 hg w14 hbox hb; have BK507 := Aside0.mk (hbox); have GW507 := Aside0.mk ((z38_0 : w.heap.size ≤ gb507)); have GE507 := Aside0.mk ((z38_0 : w.heap.size ≤ gb507)); replace HB := Aside0.mk (below_step sqh hb); have NB500_507 := Aside0.mk ((by rw [hg]; exact Nat.ne_of_lt (blk_lt (bo BK500)) : gb500 ≠ gb507)); have NB507_500 := Aside0.mk ((by rw [hg]; exact Nat.ne_of_gt (blk_lt (bo BK500)) : gb507 ≠ gb500)); replace BK500 := Aside0.mk (blk_below (bo BK500) hb); clear hb hbox hg; have hnb15 := NB507_500.out; have hnc15 := NB500_507.out; obtain ⟨hcz16_0, hcz16_1, hcz16_2, hcz16_3, hcz16_4, hfz16_0, hfz16_1, hfz16_2, hfz16_3, hfz16_4⟩ := sd5 BK507.out; obtain ⟨hcz17_0, hcz17_1, hcz17_2, hcz17_3, hcz17_4, hfz17_0, hfz17_1, hfz17_2, hfz17_3, hfz17_4⟩ := sd5 BK500.out) | (go_at_call 92; (with_reducible refine (impl_IsFresh.calls a1_3 a4 a5 t508 _ A10.out).mono ?_); rintro e w' ⟨rfl, ⟨nd, rfl⟩⟩))
   go_ret
   exact ⟨sqe, sqh⟩
  ·rw [if_neg c9] at H
   have c9b0 : (t501 == a1_0 && (t502 == a1_1 && (t503 == a1_2 && (t504 == a1_3 && (t505 == a1_4))))) = false := by simpa using c9
   (try (have c9b1 : decide (t501 = a1_0 && (t502 == a1_1 && (t503 == a1_2 && (t504 == a1_3 && (t505 == a1_4))))) = false := by simpa using c9))
   (try (have c9b2 : (t501 == a1_0 && (t502 == a1_1 && (t503 == a1_2 && (t504 == a1_3 && (t505 == a1_4))))) = false := by simpa using c9))
   (try (have c9b3 : ¬ (t501 = a1_0 && (t502 == a1_1 && (t503 == a1_2 && (t504 == a1_3 && (t505 == a1_4))))) := by simpa using c9))
   clear c9
   obtain rfl := Option.some.inj H
   go_enter Try.func38, Try.ntmps38
   go_wp2_with (first | ((with_reducible refine gate_dst (N := 7) rfl ?_); refine bx (N := 7) (cs := #[.int .i64 a1_0, .int .i64 a1_1, .int .i64 a1_2, .int .i64 a1_3, .int .i64 a1_4]) (t := 45) ?_; intro gb500 hg w18 hbox hb; have BK500 := Aside0.mk (hbox); have GW500 := Aside0.mk ((z38_0 : w.heap.size ≤ gb500)); have GE500 := Aside0.mk ((z38_0 : w.heap.size ≤ gb500)); replace HB := Aside0.mk (below_step sqh hb); clear hb hbox hg; obtain ⟨hcz19_0, hcz19_1, hcz19_2, hcz19_3, hcz19_4, hfz19_0, hfz19_1, hfz19_2, hfz19_3, hfz19_4⟩ := sd5 BK500.out) | ((with_reducible refine gate_callee (f := 34) rfl ?_); refine goesL_ (some 23) rfl rfl Try.func34 sqk rfl #[.int .i64 a0, .int .i64 a1_0, .slice A2 l2.length c2, .int .i64 a3, .int .i64 a1_3] rfl sqm ?_; (with_reducible refine (impl_MakeQuote.calls k a0 a1_0 _ _ l2 a3 a1_3 t501 t502 t503 t504 t505 true _ ?side1 ?side2 A7.out).mono ?_); (case side1 => exact sqn (Kd.C_below HR2.out HB.out)); (case side2 => exact HC2.out); rintro e w20 ⟨rfl, hb⟩; refine ⟨_, rfl, ?_⟩; replace BK500 := Aside0.mk (blk_below (bo BK500) hb); replace HB := Aside0.mk (below_step sqh hb); (try clear hb)) | ((with_reducible refine gate_dst (N := 13) rfl ?_); refine bx (N := 13) (cs := #[.int .i64 0, .int .i64 0, .int .i64 0, .int .i64 0, .int .i64 0]) (t := 45) ?_; intro gb507 hg w21 hbox hb; have BK507 := Aside0.mk (hbox); have GW507 := Aside0.mk ((z38_0 : w.heap.size ≤ gb507)); have GE507 := Aside0.mk ((z38_0 : w.heap.size ≤ gb507)); replace HB := Aside0.mk (below_step sqh hb); have NB500_507 := Aside0.mk ((by rw [hg]; exact Nat.ne_of_lt (blk_lt (bo BK500)) : gb500 ≠ gb507)); have NB507_500 := Aside0.mk ((by rw [hg]; exact Nat.ne_of_gt (blk_lt (bo BK500)) : gb507 ≠ gb500)); replace BK500 := Aside0.mk (blk_below (bo BK500) hb); clear hb hbox hg; have hnb22 := NB507_500.out; have hnc22 := NB500_507.out; obtain ⟨hcz23_0, hcz23_1, hcz23_2, hcz23_3, hcz23_4, hfz23_0, hfz23_1, hfz23_2, hfz23_3, hfz23_4⟩ := sd5 BK507.out; obtain ⟨hcz24_0, hcz24_1, hcz24_2, hcz24_3, hcz24_4, hfz24_0, hfz24_1, hfz24_2, hfz24_3, hfz24_4⟩ := sd5 BK500.out))
   go_ret
   exact ⟨sqe, sqh⟩
 ·replace c8 := Bool.eq_false_iff.mpr c8
  subst c8
  replace H := iF H
  obtain rfl := Option.some.inj H
  go_enter Try.func38, Try.ntmps38
  go_wp2_with (first | ((with_reducible refine gate_dst (N := 7) rfl ?_); refine bx (N := 7) (cs := #[.int .i64 a1_0, .int .i64 a1_1, .int .i64 a1_2, .int .i64 a1_3, .int .i64 a1_4]) (t := 45) ?_; intro gb500 hg w25 hbox hb; have BK500 := Aside0.mk (hbox); have GW500 := Aside0.mk ((z38_0 : w.heap.size ≤ gb500)); have GE500 := Aside0.mk ((z38_0 : w.heap.size ≤ gb500)); replace HB := Aside0.mk (below_step sqh hb); clear hb hbox hg; obtain ⟨hcz26_0, hcz26_1, hcz26_2, hcz26_3, hcz26_4, hfz26_0, hfz26_1, hfz26_2, hfz26_3, hfz26_4⟩ := sd5 BK500.out) | ((with_reducible refine gate_callee (f := 34) rfl ?_); refine goesL_ (some 23) rfl rfl Try.func34 sqk rfl #[.int .i64 a0, .int .i64 a1_0, .slice A2 l2.length c2, .int .i64 a3, .int .i64 a1_3] rfl sqm ?_; (with_reducible refine (impl_MakeQuote.calls k a0 a1_0 _ _ l2 a3 a1_3 t501 t502 t503 t504 t505 false _ ?side1 ?side2 A7.out).mono ?_); (case side1 => exact sqn (Kd.C_below HR2.out HB.out)); (case side2 => exact HC2.out); rintro e w27 ⟨rfl, hb⟩; refine ⟨_, rfl, ?_⟩; replace BK500 := Aside0.mk (blk_below (bo BK500) hb); replace HB := Aside0.mk (below_step sqh hb); (try clear hb)) | ((with_reducible refine gate_dst (N := 13) rfl ?_); refine bx (N := 13) (cs := #[.int .i64 0, .int .i64 0, .int .i64 0, .int .i64 0, .int .i64 0]) (t := 45) ?_; intro gb507 hg w28 hbox hb; have BK507 := Aside0.mk (hbox); have GW507 := Aside0.mk ((z38_0 : w.heap.size ≤ gb507)); have GE507 := Aside0.mk ((z38_0 : w.heap.size ≤ gb507)); replace HB := Aside0.mk (below_step sqh hb); have NB500_507 := Aside0.mk ((by rw [hg]; exact Nat.ne_of_lt (blk_lt (bo BK500)) : gb500 ≠ gb507)); have NB507_500 := Aside0.mk ((by rw [hg]; exact Nat.ne_of_gt (blk_lt (bo BK500)) : gb507 ≠ gb500)); replace BK500 := Aside0.mk (blk_below (bo BK500) hb); clear hb hbox hg; have hnb29 := NB507_500.out; have hnc29 := NB500_507.out; obtain ⟨hcz30_0, hcz30_1, hcz30_2, hcz30_3, hcz30_4, hfz30_0, hfz30_1, hfz30_2, hfz30_3, hfz30_4⟩ := sd5 BK507.out))
  go_ret
  exact ⟨sqe, sqh⟩

/-! ### impl_EndOf: function 108 -/
def impl_EndOf.f (a0 : Int) (a1 : Int) : Option (Int) := (impl_IsTime.f a0).bind fun t509 => (if t509 = true then ((impl_InRange.f a1 0 10000).bind fun t510 => (if t510 = true then (some (mn (wrap64 (a0 + a1)) 10000)) else (some 0))) else (some 0))
set_option maxHeartbeats 8000000 in
set_option maxRecDepth 100000 in
theorem impl_EndOf.calls (a0 : Int) (a1 : Int) (r : Int) (w : World) (h : impl_EndOf.f a0 a1 = some r) :
  Calls Try.prog 108 #[.int .i64 a0, .int .i64 a1] w fun e w' => e = .returned (.int .i64 r) ∧ Below w.heap.size w w' := by
 have HB := Aside0.mk (Below.refl w.heap.size w)
 have H : ((impl_IsTime.f a0).bind fun t509 => (if t509 = true then ((impl_InRange.f a1 0 10000).bind fun t510 => (if t510 = true then (some (mn (wrap64 (a0 + a1)) 10000)) else (some 0))) else (some 0))) = some r := h
 clear h
 obtain ⟨t509, A3, H⟩ := bA H
 by_cases c4 : t509 = true
 ·subst c4
  replace H := iT H
  obtain ⟨t510, A5, H⟩ := bA H
  by_cases c6 : t510 = true
  ·subst c6
   replace H := iT H
   obtain ⟨ji7, hji7⟩ : ∃ j_ : Int, (mn (wrap64 (a0 + a1)) 10000) = j_ := ⟨_, rfl⟩
   replace H : (some ji7) = some r := by first | (rw [hji7] at H; exact H) | (simp only [hji7] at H ⊢; exact H)
   (try rw [hji7] at A3)
   (try rw [hji7] at A5)
   (try (have hji7h : ji7 ≤ 10000 := by (rw [← hji7]; unfold mn; (repeat' split) <;> omega)))
   (try (have hji7g : ji7 ≤ 64 := by omega))
   have hji7_ : (if 10000 < (wrap64 (a0 + a1)) then 10000 else (wrap64 (a0 + a1))) = ji7 := hji7
   obtain rfl := Option.some.inj H
   go_enter Try.func108, Try.ntmps108
   go_wp2_with (first | ((with_reducible refine gate_callee (f := 89) rfl ?_); refine goesL_ (some 6) rfl rfl Try.func89 sqk rfl #[.int .i64 a0] rfl sqm ?_; (with_reducible refine (impl_IsTime.calls a0 true _ A3.out).mono ?_); rintro e w' ⟨rfl, ⟨nd, rfl⟩⟩; refine ⟨_, rfl, ?_⟩) | (go_at_call 70; (with_reducible refine (impl_InRange.calls a1 0 10000 true _ A5.out).mono ?_); rintro e w' ⟨rfl, ⟨nd, rfl⟩⟩))
   go_ret
   exact ⟨by first | rfl | (simp [errW_none, errW_some] <;> rfl) | (simp only [← hji7]; first | rfl | (simp [errW_none, errW_some] <;> rfl)) | (simp [*, errW_none, errW_some] <;> rfl), sqh⟩
  ·replace c6 := Bool.eq_false_iff.mpr c6
   subst c6
   replace H := iF H
   obtain rfl := Option.some.inj H
   go_enter Try.func108, Try.ntmps108
   go_wp2_with (first | ((with_reducible refine gate_callee (f := 89) rfl ?_); refine goesL_ (some 6) rfl rfl Try.func89 sqk rfl #[.int .i64 a0] rfl sqm ?_; (with_reducible refine (impl_IsTime.calls a0 true _ A3.out).mono ?_); rintro e w' ⟨rfl, ⟨nd, rfl⟩⟩; refine ⟨_, rfl, ?_⟩) | (go_at_call 70; (with_reducible refine (impl_InRange.calls a1 0 10000 false _ A5.out).mono ?_); rintro e w' ⟨rfl, ⟨nd, rfl⟩⟩))
   go_ret
   exact ⟨sqe, sqh⟩
 ·replace c4 := Bool.eq_false_iff.mpr c4
  subst c4
  replace H := iF H
  obtain rfl := Option.some.inj H
  go_enter Try.func108, Try.ntmps108
  go_wp2_with (first | ((with_reducible refine gate_callee (f := 89) rfl ?_); refine goesL_ (some 6) rfl rfl Try.func89 sqk rfl #[.int .i64 a0] rfl sqm ?_; (with_reducible refine (impl_IsTime.calls a0 false _ A3.out).mono ?_); rintro e w' ⟨rfl, ⟨nd, rfl⟩⟩; refine ⟨_, rfl, ?_⟩))
  go_ret
  exact ⟨sqe, sqh⟩

end Go.Proofs.Ytlmhemcpkmjkiaa.XFnAppraisal
