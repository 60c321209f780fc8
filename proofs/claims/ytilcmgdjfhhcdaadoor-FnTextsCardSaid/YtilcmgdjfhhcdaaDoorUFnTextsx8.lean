/- Written by this session's own program (wip/xprint, which runs over the kit's print): what the functions that the law reaches come to, each proved; and the law's row. Conditions: none. -/
import Derived.Test.YtilcmgdjfhhcdaaDoorUFnTextsSq
import Derived.Test.YtilcmgdjfhhcdaaDoorUFnTextsx0
import Derived.Test.YtilcmgdjfhhcdaaDoorUFnTextsx6
import Derived.Test.YtilcmgdjfhhcdaaDoorUFnTextsx7
namespace Go.Proofs.YtilcmgdjfhhcdaaDoor.XFnTexts
open Go.RowKit Go.Proofs.YtilcmgdjfhhcdaaDoorW.PrintWords Go.Proofs.YtilcmgdjfhhcdaaDoorW.PrintLast Go.Proofs.YtilcmgdjfhhcdaaDoorW.PrintMore Go.Proofs.YtilcmgdjfhhcdaaDoorSq
attribute [local go_sem] max2_int min2_int max_two min_two max_three min_three max_four min_four   -- for this text's walks alone
set_option linter.unusedVariables false
set_option linter.unusedSimpArgs false

/-! ### impl_formatCond: function 19 -/
mutual
def impl_formatCond.j0 : Nat → ByteArray → Bool → Int → Int → Int → List (S27) → Option (ByteArray)
 | 0, _, _, _, _, _, _ => none
 | k + 1, x3, x20, x420000, x420001, x420002, x420003 => if x20 = true then (if 0 < (x420003.length : Int) then ((impl_formatCond.f k ((rd_T27 x420003 0).f0) ((rd_T27 x420003 0).f1) ((rd_T27 x420003 0).f2) ((rd_T27 x420003 0).f3)).bind fun t424 => (if 1 + t424.size ≤ 9223372036854775807 then (if ((⟨#[40]⟩ : ByteArray) ++ t424).size + 1 ≤ 9223372036854775807 then (if (((⟨#[40]⟩ : ByteArray) ++ t424) ++ (⟨#[32]⟩ : ByteArray)).size + x3.size ≤ 9223372036854775807 then (if ((((⟨#[40]⟩ : ByteArray) ++ t424) ++ (⟨#[32]⟩ : ByteArray)) ++ x3).size + 1 ≤ 9223372036854775807 then (if 1 < (x420003.length : Int) then ((impl_formatCond.f k ((rd_T27 x420003 1).f0) ((rd_T27 x420003 1).f1) ((rd_T27 x420003 1).f2) ((rd_T27 x420003 1).f3)).bind fun t426 => (if (((((⟨#[40]⟩ : ByteArray) ++ t424) ++ (⟨#[32]⟩ : ByteArray)) ++ x3) ++ (⟨#[32]⟩ : ByteArray)).size + t426.size ≤ 9223372036854775807 then (if ((((((⟨#[40]⟩ : ByteArray) ++ t424) ++ (⟨#[32]⟩ : ByteArray)) ++ x3) ++ (⟨#[32]⟩ : ByteArray)) ++ t426).size + 1 ≤ 9223372036854775807 then (some (((((((⟨#[40]⟩ : ByteArray) ++ t424) ++ (⟨#[32]⟩ : ByteArray)) ++ x3) ++ (⟨#[32]⟩ : ByteArray)) ++ t426) ++ (⟨#[41]⟩ : ByteArray))) else (none)) else (none))) else (none)) else (none)) else (none)) else (none)) else (none))) else (none)) else (if x420000 = 1 then (impl_formatCond.j1 k x3 false x420000 x420001 x420002 x420003) else (impl_formatCond.j1 k x3 (x420000 != 3) x420000 x420001 x420002 x420003))
def impl_formatCond.j1 : Nat → ByteArray → Bool → Int → Int → Int → List (S27) → Option (ByteArray)
 | 0, _, _, _, _, _, _ => none
 | k + 1, x3, x47, x420000, x420001, x420002, x420003 => if x47 = true then ((impl_FormatInt.f x420001).bind fun t427 => (if 1 + t427.size ≤ 9223372036854775807 then (if x3.size + ((⟨#[32]⟩ : ByteArray) ++ t427).size ≤ 9223372036854775807 then (impl_formatCond.j2 k (x3 ++ ((⟨#[32]⟩ : ByteArray) ++ t427)) x420000 x420001 x420002 x420003) else (none)) else (none))) else (impl_formatCond.j2 k x3 x420000 x420001 x420002 x420003)
def impl_formatCond.j2 : Nat → ByteArray → Int → Int → Int → List (S27) → Option (ByteArray)
 | 0, _, _, _, _, _ => none
 | k + 1, x3, x420000, x420001, x420002, x420003 => (impl_InRange.f x420000 2 5).bind fun t428 => (if t428 = true then ((impl_FormatInt.f x420002).bind fun t429 => (if 1 + t429.size ≤ 9223372036854775807 then (if x3.size + ((⟨#[32]⟩ : ByteArray) ++ t429).size ≤ 9223372036854775807 then (some (x3 ++ ((⟨#[32]⟩ : ByteArray) ++ t429))) else (none)) else (none))) else (some x3))
def impl_formatCond.f : Nat → Int → Int → Int → List (S27) → Option (ByteArray)
 | 0, _, _, _, _ => none
 | k + 1, a0_0, a0_1, a0_2, l0_3 => (strconv_small.f a0_0).bind fun t420 => (if a0_0 = 7 then (if t420.size + 1 ≤ 9223372036854775807 then (if 0 < (l0_3.length : Int) then ((impl_formatCond.f k ((rd_T27 l0_3 0).f0) ((rd_T27 l0_3 0).f1) ((rd_T27 l0_3 0).f2) ((rd_T27 l0_3 0).f3)).bind fun t422 => (if (t420 ++ (⟨#[32]⟩ : ByteArray)).size + t422.size ≤ 9223372036854775807 then (some ((t420 ++ (⟨#[32]⟩ : ByteArray)) ++ t422)) else (none))) else (none)) else (none)) else (if a0_0 = 8 then (impl_formatCond.j0 k t420 (a0_0 == 8) a0_0 a0_1 a0_2 l0_3) else (impl_formatCond.j0 k t420 (a0_0 == 9) a0_0 a0_1 a0_2 l0_3)))
end
def impl_formatCond.T7 : Bool × List (List Nat × List Nat) := (true, [([], []), ([0], [0]), ([1], [1]), ([2], [2]), ([3], [3]), ([4], [4]), ([5], [5]), ([], []), ([6, 7], [6, 7]), ([8], [8]), ([], []), ([10], [10]), ([11], [11]), ([12], [12]), ([13, 4], [13]), ([9, 14], [9, 14]), ([15], [15]), ([16, 14, 0, 1, 2, 3, 4, 5, 6, 7, 8, 9, 10, 11, 12, 13, 14, 15, 16], [16])])
def impl_formatCond.B7 : List Nat := [0, 1, 3, 7, 15, 31, 63, 0, 255, 511, 0, 1024, 3072, 7168, 15391, 32767, 65535, 131071]
theorem impl_formatCond.tab7 : rtab .any (opsOf Tryd.f19 7) = impl_formatCond.T7 := by kernel_rfl
theorem impl_formatCond.bits7 : waitsOk impl_formatCond.T7.2 impl_formatCond.B7 = true := by kernel_rfl
set_option maxHeartbeats 8000000 in
set_option maxRecDepth 100000 in
theorem impl_formatCond.calls (k : Nat) : ∀ (a0_0 : Int) (a0_1 : Int) (a0_2 : Int) (A0_3 : Option Addr) (c0_3 : Nat) (l0_3 : List (S27)) (r : ByteArray) (w : World) (hr0_3 : Kd.C k27 w A0_3 l0_3.length l0_3) (hc0_3 : l0_3.length ≤ c0_3) (h : impl_formatCond.f k a0_0 a0_1 a0_2 l0_3 = some r) (hT : Tabs w),
  Calls Tryd.prog 19 #[.agg #[.int .i64 a0_0, .int .i64 a0_1, .int .i64 a0_2, .slice A0_3 l0_3.length c0_3]] w fun e w' => e = .returned (.string r) ∧ Below w.heap.size w w' := by
 induction k using Nat.strongRecOn with
 | _ k ih =>
 intro a0_0 a0_1 a0_2 A0_3 c0_3 l0_3 r w hr0_3 hc0_3 h hT
 cases k with
 | zero => exact absurd h (by simp [impl_formatCond.f])
 | succ k =>
 simp only [impl_formatCond.f] at h
 have hu27 := Tryd.underlying27
 have HR0_3 := Aside0.mk hr0_3
 have HC0_3 := Aside0.mk hc0_3
 clear hr0_3 hc0_3
 have HB := Aside0.mk (Below.refl w.heap.size w)
 have HTab := Aside0.mk hT
 clear hT
 have H : ((strconv_small.f a0_0).bind fun t420 => (if a0_0 = 7 then (if t420.size + 1 ≤ 9223372036854775807 then (if 0 < (l0_3.length : Int) then ((impl_formatCond.f k ((rd_T27 l0_3 0).f0) ((rd_T27 l0_3 0).f1) ((rd_T27 l0_3 0).f2) ((rd_T27 l0_3 0).f3)).bind fun t422 => (if (t420 ++ (⟨#[32]⟩ : ByteArray)).size + t422.size ≤ 9223372036854775807 then (some ((t420 ++ (⟨#[32]⟩ : ByteArray)) ++ t422)) else (none))) else (none)) else (none)) else (if a0_0 = 8 then (impl_formatCond.j0 k t420 (a0_0 == 8) a0_0 a0_1 a0_2 l0_3) else (impl_formatCond.j0 k t420 (a0_0 == 9) a0_0 a0_1 a0_2 l0_3)))) = some r := h
 clear h
 obtain ⟨t420, A2, H⟩ := bA H
 by_cases c3 : a0_0 = 7
 ·rw [if_pos c3] at H
  have c3b0 : (a0_0 == 7) = true := beq_iff_eq.mpr c3
  have c3b1 : (a0_0 != 7) = false := bne_eq_false_iff_eq.mpr c3
  clear c3
  by_cases c4 : t420.size + 1 ≤ 9223372036854775807
  ·rw [if_pos c4] at H
   have c4b0 := eq_true c4
   have c4b1 : decide (t420.size + 1 ≤ 9223372036854775807) = true := decide_eq_true c4
   try have c4b2 : (9223372036854775807 < t420.size + 1) = False := eq_false (Nat.not_lt.2 c4)
   by_cases c5 : 0 < (l0_3.length : Int)
   ·rw [if_pos c5] at H
    have c5b0 : decide (0 < (l0_3.length : Int)) = true := decide_eq_true c5
    have c5b1 : decide (0 < l0_3.length) = true := decide_eq_true (by omega)
    clear c5
    obtain ⟨t422, A6, H⟩ := bA H
    by_cases c7 : (t420 ++ (⟨#[32]⟩ : ByteArray)).size + t422.size ≤ 9223372036854775807
    ·rw [if_pos c7] at H
     have c7b0 := eq_true c7
     have c7b1 : decide ((t420 ++ (⟨#[32]⟩ : ByteArray)).size + t422.size ≤ 9223372036854775807) = true := decide_eq_true c7
     try have c7b2 : (9223372036854775807 < (t420 ++ (⟨#[32]⟩ : ByteArray)).size + t422.size) = False := eq_false (Nat.not_lt.2 c7)
     try have c7b3 : (9223372036854775807 < t420.size + 1 + t422.size) = False := eq_false (Nat.not_lt.2 (show t420.size + 1 + t422.size ≤ 9223372036854775807 from by have hh := c7; simp only [ByteArray.size_append] at hh; exact hh))
     obtain rfl := Option.some.inj H
     go_enter Tryd.func19, Tryd.ntmps19
     go_wp2_with (first | ((with_reducible refine gate_dst (N := 1) rfl ?_); refine bx (N := 1) (cs := #[.int .i64 a0_0, .int .i64 a0_1, .int .i64 a0_2, .slice A0_3 l0_3.length c0_3]) (t := 27) ?_; intro gb419 hg w8 hbox hb; have BK419 := Aside0.mk (hbox); have GW419 := Aside0.mk ((by rw [hg]; exact (below_size sqh) : w.heap.size ≤ gb419)); have GE419 := Aside0.mk ((by rw [hg]; exact (below_size sqh) : w.heap.size ≤ gb419)); replace HB := Aside0.mk (below_step sqh hb); clear hb hbox hg; obtain ⟨hcz9_0, hcz9_1, hcz9_2, hcz9_3, hfz9_0, hfz9_1, hfz9_2, hfz9_3⟩ := sd4 BK419.out; obtain ⟨hlo, hhi, hgl⟩ := (HTab.out.below HB.out).at A2.out; have hlo1 := eq_true hlo; have hhi1 := eq_true hhi; have hlo2 := decide_eq_true hlo; have hhi2 := decide_eq_true hhi; have hhi3 : (Int.toNat _ < 10) = True := eq_true ((Int.toNat_lt hlo).2 hhi); obtain ⟨hcz11_0, hcz11_1, hcz11_2, hcz11_3, hfz11_0, hfz11_1, hfz11_2, hfz11_3⟩ := sd4 BK419.out; have p421 : 0 ≤ (0 : Int) := (by omega); have q421 : 0 < (l0_3.length : Int) := of_decide_eq_true sqs; obtain ⟨ad421, A421_3, c421_3, e421, hx421_0, hx421_1, hx421_2, hx421_3, hl421_3, hi421_3⟩ := at_T27 HR0_3.out 0 p421 q421; cases e421; have qi421 : (0 < l0_3.length) = True := eq_true (by omega); (try rw [show ((0 : Int)).toNat = 0 from rfl] at hx421_0); (try rw [show 0 * 4 = 0 from rfl] at hx421_0); (try rw [Addr.add_zero'] at hx421_0); (try rw [show ((0 : Int)).toNat = 0 from rfl] at hx421_1); (try rw [show 0 * 4 = 0 from rfl] at hx421_1); (try rw [Addr.add_zero'] at hx421_1); (try rw [show ((0 : Int)).toNat = 0 from rfl] at hx421_2); (try rw [show 0 * 4 = 0 from rfl] at hx421_2); (try rw [Addr.add_zero'] at hx421_2); (try rw [show ((0 : Int)).toNat = 0 from rfl] at hx421_3); (try rw [show 0 * 4 = 0 from rfl] at hx421_3); (try rw [Addr.add_zero'] at hx421_3); replace hx421_0 := cl HB hx421_0; replace hx421_1 := cl HB hx421_1; replace hx421_2 := cl HB hx421_2; replace hx421_3 := cl HB hx421_3; have HR421_3 := Aside0.mk hi421_3; have HC421_3 := Aside0.mk hl421_3; clear hi421_3 hl421_3; replace p421 := eq_true p421; replace q421 := eq_true q421) | ((with_reducible refine gate_callee (f := 19) rfl ?_); refine goesL_ (some 18) rfl rfl Tryd.func19 sqk rfl #[.agg #[.int .i64 ((rd_T27 l0_3 0).f0), .int .i64 ((rd_T27 l0_3 0).f1), .int .i64 ((rd_T27 l0_3 0).f2), .slice A421_3 ((rd_T27 l0_3 0).f3).length c421_3]] rfl sqm ?_; (with_reducible refine (ih k (by omega) ((rd_T27 l0_3 0).f0) ((rd_T27 l0_3 0).f1) ((rd_T27 l0_3 0).f2) _ _ ((rd_T27 l0_3 0).f3) t422 _ ?side1 ?side2 A6.out (HTab.out.below sqh)).mono ?_); (case side1 => exact sqn (Kd.C_below HR421_3.out HB.out)); (case side2 => exact HC421_3.out); rintro e w12 ⟨rfl, hb⟩; refine ⟨_, rfl, ?_⟩; replace BK419 := Aside0.mk (blk_below (bo BK419) hb); replace HB := Aside0.mk (below_step sqh hb); (try clear hb)))
     go_ret
     exact ⟨sqe, sqh⟩
    ·rw [if_neg c7] at H
     exact absurd H (by simp)
   ·rw [if_neg c5] at H
    exact absurd H (by simp)
  ·rw [if_neg c4] at H
   exact absurd H (by simp)
 ·rw [if_neg c3] at H
  have c3b0 : (a0_0 == 7) = false := beq_eq_false_iff_ne.mpr c3
  have c3b1 : (a0_0 != 7) = true := bne_iff_ne.mpr c3
  have HC13 := Aside0.mk H
  clear H
  go_enter Tryd.func19, Tryd.ntmps19
  go_upto_if 20 with (first | ((with_reducible refine gate_dst (N := 1) rfl ?_); refine bx (N := 1) (cs := #[.int .i64 a0_0, .int .i64 a0_1, .int .i64 a0_2, .slice A0_3 l0_3.length c0_3]) (t := 27) ?_; intro gb419 hg w14 hbox hb; have BK419 := Aside0.mk (hbox); have GW419 := Aside0.mk ((by rw [hg]; exact (below_size sqh) : w.heap.size ≤ gb419)); have GE419 := Aside0.mk ((by rw [hg]; exact (below_size sqh) : w.heap.size ≤ gb419)); replace HB := Aside0.mk (below_step sqh hb); clear hb hbox hg; obtain ⟨hcz15_0, hcz15_1, hcz15_2, hcz15_3, hfz15_0, hfz15_1, hfz15_2, hfz15_3⟩ := sd4 BK419.out; obtain ⟨hlo, hhi, hgl⟩ := (HTab.out.below HB.out).at A2.out; have hlo1 := eq_true hlo; have hhi1 := eq_true hhi; have hlo2 := decide_eq_true hlo; have hhi2 := decide_eq_true hhi; have hhi3 : (Int.toNat _ < 10) = True := eq_true ((Int.toNat_lt hlo).2 hhi); obtain ⟨hcz17_0, hcz17_1, hcz17_2, hcz17_3, hfz17_0, hfz17_1, hfz17_2, hfz17_3⟩ := sd4 BK419.out))
  (try simp only [Act.put, List.setIfInBounds_toArray, List.set_cons_zero, List.set_cons_succ])
  go_cut [20] (fun v20 wc => ∃ (kq : Nat) (x20_12 : Bool), v20 = .bool x20_12 ∧ Aside0 (impl_formatCond.j0 kq t420 x20_12 a0_0 a0_1 a0_2 l0_3 = some r) ∧ Aside0 (kq ≤ k) ∧ Aside0 (wc.heap[gb419]? = some (.cells #[.int .i64 a0_0, .int .i64 a0_1, .int .i64 a0_2, (.slice A0_3 l0_3.length c0_3)] 27 (0, 0))) ∧ Aside0 (Below w.heap.size w wc))
  case first =>
   have H := HC13.out
   clear HC13
   by_cases c18 : a0_0 = 8
   ·rw [if_pos c18] at H
    have c18b0 : (a0_0 == 8) = true := beq_iff_eq.mpr c18
    have c18b1 : (a0_0 != 8) = false := bne_eq_false_iff_eq.mpr c18
    clear c18
    (first | rw [c18b0] | (simp only [i64_w, i32_w]; rw [c18b0]) | skip)
    have H' := Aside0.mk H
    clear H
    go_wp2
    go_meet
    case rel => exact ⟨_, ((a0_0 == 8)), sqr, H', ⟨sqo⟩, ⟨sqb BK419.out⟩, ⟨sqh⟩⟩
   ·rw [if_neg c18] at H
    have c18b0 : (a0_0 == 8) = false := beq_eq_false_iff_ne.mpr c18
    have c18b1 : (a0_0 != 8) = true := bne_iff_ne.mpr c18
    (first | rw [c18b0] | (simp only [i64_w, i32_w]; rw [c18b0]) | skip)
    have H' := Aside0.mk H
    clear H
    go_wp2
    go_meet
    case rel => exact ⟨_, ((a0_0 == 9)), sqr, H', ⟨sqo⟩, ⟨sqb BK419.out⟩, ⟨sqh⟩⟩
  case rest =>
   clear HC13; try clear c1; try clear p2; try clear c3; try clear c3b0; try clear c3b1; try clear c4; try clear c4b0; try clear c4b1; try clear c4b2; try clear p4; try clear q4; try clear hx4; try clear qi4; try clear c5; try clear c5b0; try clear c5b1; try clear c7; try clear c7b0; try clear c7b1; try clear c7b2; try clear c18; try clear c18b0; try clear c18b1; try clear hcz11_0; try clear hcz11_1; try clear hcz11_2; try clear hcz11_3; try clear hcz15_0; try clear hcz15_1; try clear hcz15_2; try clear hcz15_3; try clear hcz17_0; try clear hcz17_1; try clear hcz17_2; try clear hcz17_3; try clear hcz9_0; try clear hcz9_1; try clear hcz9_2; try clear hcz9_3; try clear hfz11_0; try clear hfz11_1; try clear hfz11_2; try clear hfz11_3; try clear hfz15_0; try clear hfz15_1; try clear hfz15_2; try clear hfz15_3; try clear hfz17_0; try clear hfz17_1; try clear hfz17_2; try clear hfz17_3; try clear hfz9_0
   try clear hfz9_1; try clear hfz9_2; try clear hfz9_3; try clear hx421_0; try clear hx421_1; try clear hx421_2; try clear hx421_3; try clear p421; try clear q421
   obtain ⟨kq, x20_12, rfl, HA, HJ12, BK419, HB⟩ := hcut
   cases kq with
   | zero => exact absurd HA.out (by simp [impl_formatCond.j0])
   | succ kj12 =>
    have H := HA.out
    clear HA
    simp only [impl_formatCond.j0] at H
    by_cases c19 : x20_12 = true
    ·subst c19
     replace H := iT H
     by_cases c20 : 0 < (l0_3.length : Int)
     ·rw [if_pos c20] at H
      have c20b0 : decide (0 < (l0_3.length : Int)) = true := decide_eq_true c20
      have c20b1 : decide (0 < l0_3.length) = true := decide_eq_true (by omega)
      clear c20
      obtain ⟨t424, A21, H⟩ := bA H
      by_cases c22 : 1 + t424.size ≤ 9223372036854775807
      ·rw [if_pos c22] at H
       have c22b0 := eq_true c22
       have c22b1 : decide (1 + t424.size ≤ 9223372036854775807) = true := decide_eq_true c22
       try have c22b2 : (9223372036854775807 < 1 + t424.size) = False := eq_false (Nat.not_lt.2 c22)
       by_cases c23 : ((⟨#[40]⟩ : ByteArray) ++ t424).size + 1 ≤ 9223372036854775807
       ·rw [if_pos c23] at H
        have c23b0 := eq_true c23
        have c23b1 : decide (((⟨#[40]⟩ : ByteArray) ++ t424).size + 1 ≤ 9223372036854775807) = true := decide_eq_true c23
        try have c23b2 : (9223372036854775807 < ((⟨#[40]⟩ : ByteArray) ++ t424).size + 1) = False := eq_false (Nat.not_lt.2 c23)
        try have c23b3 : (9223372036854775807 < 1 + t424.size + 1) = False := eq_false (Nat.not_lt.2 (show 1 + t424.size + 1 ≤ 9223372036854775807 from by have hh := c23; simp only [ByteArray.size_append] at hh; exact hh))
        by_cases c24 : (((⟨#[40]⟩ : ByteArray) ++ t424) ++ (⟨#[32]⟩ : ByteArray)).size + t420.size ≤ 9223372036854775807
        ·rw [if_pos c24] at H
         have c24b0 := eq_true c24
         have c24b1 : decide ((((⟨#[40]⟩ : ByteArray) ++ t424) ++ (⟨#[32]⟩ : ByteArray)).size + t420.size ≤ 9223372036854775807) = true := decide_eq_true c24
         try have c24b2 : (9223372036854775807 < (((⟨#[40]⟩ : ByteArray) ++ t424) ++ (⟨#[32]⟩ : ByteArray)).size + t420.size) = False := eq_false (Nat.not_lt.2 c24)
         try have c24b3 : (9223372036854775807 < 1 + t424.size + 1 + t420.size) = False := eq_false (Nat.not_lt.2 (show 1 + t424.size + 1 + t420.size ≤ 9223372036854775807 from by have hh := c24; simp only [ByteArray.size_append] at hh; exact hh))
         by_cases c25 : ((((⟨#[40]⟩ : ByteArray) ++ t424) ++ (⟨#[32]⟩ : ByteArray)) ++ t420).size + 1 ≤ 9223372036854775807
         ·rw [if_pos c25] at H
          have c25b0 := eq_true c25
          have c25b1 : decide (((((⟨#[40]⟩ : ByteArray) ++ t424) ++ (⟨#[32]⟩ : ByteArray)) ++ t420).size + 1 ≤ 9223372036854775807) = true := decide_eq_true c25
          try have c25b2 : (9223372036854775807 < ((((⟨#[40]⟩ : ByteArray) ++ t424) ++ (⟨#[32]⟩ : ByteArray)) ++ t420).size + 1) = False := eq_false (Nat.not_lt.2 c25)
          try have c25b3 : (9223372036854775807 < 1 + t424.size + 1 + t420.size + 1) = False := eq_false (Nat.not_lt.2 (show 1 + t424.size + 1 + t420.size + 1 ≤ 9223372036854775807 from by have hh := c25; simp only [ByteArray.size_append] at hh; exact hh))
          by_cases c26 : 1 < (l0_3.length : Int)
          ·rw [if_pos c26] at H
           have c26b0 : decide (1 < (l0_3.length : Int)) = true := decide_eq_true c26
           have c26b1 : decide (1 < l0_3.length) = true := decide_eq_true (by omega)
           clear c26
           obtain ⟨t426, A27, H⟩ := bA H
           by_cases c28 : (((((⟨#[40]⟩ : ByteArray) ++ t424) ++ (⟨#[32]⟩ : ByteArray)) ++ t420) ++ (⟨#[32]⟩ : ByteArray)).size + t426.size ≤ 9223372036854775807
           ·rw [if_pos c28] at H
            have c28b0 := eq_true c28
            have c28b1 : decide ((((((⟨#[40]⟩ : ByteArray) ++ t424) ++ (⟨#[32]⟩ : ByteArray)) ++ t420) ++ (⟨#[32]⟩ : ByteArray)).size + t426.size ≤ 9223372036854775807) = true := decide_eq_true c28
            try have c28b2 : (9223372036854775807 < (((((⟨#[40]⟩ : ByteArray) ++ t424) ++ (⟨#[32]⟩ : ByteArray)) ++ t420) ++ (⟨#[32]⟩ : ByteArray)).size + t426.size) = False := eq_false (Nat.not_lt.2 c28)
            try have c28b3 : (9223372036854775807 < 1 + t424.size + 1 + t420.size + 1 + t426.size) = False := eq_false (Nat.not_lt.2 (show 1 + t424.size + 1 + t420.size + 1 + t426.size ≤ 9223372036854775807 from by have hh := c28; simp only [ByteArray.size_append] at hh; exact hh))
            by_cases c29 : ((((((⟨#[40]⟩ : ByteArray) ++ t424) ++ (⟨#[32]⟩ : ByteArray)) ++ t420) ++ (⟨#[32]⟩ : ByteArray)) ++ t426).size + 1 ≤ 9223372036854775807
            ·rw [if_pos c29] at H
             have c29b0 := eq_true c29
             have c29b1 : decide (((((((⟨#[40]⟩ : ByteArray) ++ t424) ++ (⟨#[32]⟩ : ByteArray)) ++ t420) ++ (⟨#[32]⟩ : ByteArray)) ++ t426).size + 1 ≤ 9223372036854775807) = true := decide_eq_true c29
             try have c29b2 : (9223372036854775807 < ((((((⟨#[40]⟩ : ByteArray) ++ t424) ++ (⟨#[32]⟩ : ByteArray)) ++ t420) ++ (⟨#[32]⟩ : ByteArray)) ++ t426).size + 1) = False := eq_false (Nat.not_lt.2 c29)
             try have c29b3 : (9223372036854775807 < 1 + t424.size + 1 + t420.size + 1 + t426.size + 1) = False := eq_false (Nat.not_lt.2 (show 1 + t424.size + 1 + t420.size + 1 + t426.size + 1 ≤ 9223372036854775807 from by have hh := c29; simp only [ByteArray.size_append] at hh; exact hh))
             obtain rfl := Option.some.inj H
             try go_wp2
             replace BK419 := Aside0.mk (blk_drew BK419.out)
             replace HB := Aside0.mk (below_drew1 HB.out)
             have p423 : 0 ≤ (0 : Int) := (by omega)
             have q423 : 0 < (l0_3.length : Int) := of_decide_eq_true sqs
             obtain ⟨ad423, A423_3, c423_3, e423, hx423_0, hx423_1, hx423_2, hx423_3, hl423_3, hi423_3⟩ := at_T27 HR0_3.out 0 p423 q423
             have hw423_3 := hx423_3
             (try rw [show ((0 : Int)).toNat = 0 from rfl] at hw423_3)
             (try rw [show 0 * 4 = 0 from rfl] at hw423_3)
             (try rw [Addr.add_zero'] at hw423_3)
             have hw423_2 := hx423_2
             (try rw [show ((0 : Int)).toNat = 0 from rfl] at hw423_2)
             (try rw [show 0 * 4 = 0 from rfl] at hw423_2)
             (try rw [Addr.add_zero'] at hw423_2)
             have hw423_1 := hx423_1
             (try rw [show ((0 : Int)).toNat = 0 from rfl] at hw423_1)
             (try rw [show 0 * 4 = 0 from rfl] at hw423_1)
             (try rw [Addr.add_zero'] at hw423_1)
             have hw423_0 := hx423_0
             (try rw [show ((0 : Int)).toNat = 0 from rfl] at hw423_0)
             (try rw [show 0 * 4 = 0 from rfl] at hw423_0)
             (try rw [Addr.add_zero'] at hw423_0)
             cases e423
             have qi423 : (0 < l0_3.length) = True := eq_true (by omega)
             (try rw [show ((0 : Int)).toNat = 0 from rfl] at hx423_0)
             (try rw [show 0 * 4 = 0 from rfl] at hx423_0)
             (try rw [Addr.add_zero'] at hx423_0)
             (try rw [show ((0 : Int)).toNat = 0 from rfl] at hx423_1)
             (try rw [show 0 * 4 = 0 from rfl] at hx423_1)
             (try rw [Addr.add_zero'] at hx423_1)
             (try rw [show ((0 : Int)).toNat = 0 from rfl] at hx423_2)
             (try rw [show 0 * 4 = 0 from rfl] at hx423_2)
             (try rw [Addr.add_zero'] at hx423_2)
             (try rw [show ((0 : Int)).toNat = 0 from rfl] at hx423_3)
             (try rw [show 0 * 4 = 0 from rfl] at hx423_3)
             (try rw [Addr.add_zero'] at hx423_3)
             replace hx423_0 := cl HB hx423_0; replace hx423_1 := cl HB hx423_1; replace hx423_2 := cl HB hx423_2; replace hx423_3 := cl HB hx423_3
             have HR423_3 := Aside0.mk hi423_3
             have HC423_3 := Aside0.mk hl423_3
             clear hi423_3 hl423_3
             replace p423 := eq_true p423
             replace q423 := eq_true q423
             have p425 : 0 ≤ (1 : Int) := (by omega)
             have q425 : 1 < (l0_3.length : Int) := of_decide_eq_true sqs
             obtain ⟨ad425, A425_3, c425_3, e425, hx425_0, hx425_1, hx425_2, hx425_3, hl425_3, hi425_3⟩ := at_T27 HR0_3.out 1 p425 q425
             have hw425_3 := hx425_3
             (try rw [show ((1 : Int)).toNat = 1 from rfl] at hw425_3)
             (try rw [show 1 * 4 = 4 from rfl] at hw425_3)
             (try simp only [Nat.reduceMul, Nat.reduceEqDiff, Go.Addr.add, ↓reduceIte] at hw425_3)
             have hw425_2 := hx425_2
             (try rw [show ((1 : Int)).toNat = 1 from rfl] at hw425_2)
             (try rw [show 1 * 4 = 4 from rfl] at hw425_2)
             (try simp only [Nat.reduceMul, Nat.reduceEqDiff, Go.Addr.add, ↓reduceIte] at hw425_2)
             have hw425_1 := hx425_1
             (try rw [show ((1 : Int)).toNat = 1 from rfl] at hw425_1)
             (try rw [show 1 * 4 = 4 from rfl] at hw425_1)
             (try simp only [Nat.reduceMul, Nat.reduceEqDiff, Go.Addr.add, ↓reduceIte] at hw425_1)
             have hw425_0 := hx425_0
             (try rw [show ((1 : Int)).toNat = 1 from rfl] at hw425_0)
             (try rw [show 1 * 4 = 4 from rfl] at hw425_0)
             (try simp only [Nat.reduceMul, Nat.reduceEqDiff, Go.Addr.add, ↓reduceIte] at hw425_0)
             obtain rfl : ad423 = ad425 := (by injection e425)
             (try simp only [show (1 : Int).toNat = 1 from rfl, Nat.reduceMul, Nat.reduceEqDiff, Go.Addr.add, ↓reduceIte] at hx425_0)
             (try simp only [show (1 : Int).toNat = 1 from rfl, Nat.reduceMul, Nat.reduceEqDiff, Go.Addr.add, ↓reduceIte] at hx425_1)
             (try simp only [show (1 : Int).toNat = 1 from rfl, Nat.reduceMul, Nat.reduceEqDiff, Go.Addr.add, ↓reduceIte] at hx425_2)
             (try simp only [show (1 : Int).toNat = 1 from rfl, Nat.reduceMul, Nat.reduceEqDiff, Go.Addr.add, ↓reduceIte] at hx425_3)
             have qi425 : (1 < l0_3.length) = True := eq_true (by omega)
             (try rw [show ((1 : Int)).toNat = 1 from rfl] at hx425_0)
             (try rw [show 1 * 4 = 4 from rfl] at hx425_0)
             (try rw [show ((1 : Int)).toNat = 1 from rfl] at hx425_1)
             (try rw [show 1 * 4 = 4 from rfl] at hx425_1)
             (try rw [show ((1 : Int)).toNat = 1 from rfl] at hx425_2)
             (try rw [show 1 * 4 = 4 from rfl] at hx425_2)
             (try rw [show ((1 : Int)).toNat = 1 from rfl] at hx425_3)
             (try rw [show 1 * 4 = 4 from rfl] at hx425_3)
             replace hx425_0 := cl HB hx425_0; replace hx425_1 := cl HB hx425_1; replace hx425_2 := cl HB hx425_2; replace hx425_3 := cl HB hx425_3
             have HR425_3 := Aside0.mk hi425_3
             have HC425_3 := Aside0.mk hl425_3
             clear hi425_3 hl425_3
             replace p425 := eq_true p425
             replace q425 := eq_true q425
             refine start_ (n := 18) (S := fun w' => w'.cell? ⟨gb419, 0, none⟩ = some (.int .i64 a0_0) ∧ w'.cell? ⟨gb419, 1, none⟩ = some (.int .i64 a0_1) ∧ w'.cell? ⟨gb419, 2, none⟩ = some (.int .i64 a0_2) ∧ w'.cell? ⟨gb419, 3, none⟩ = some (.slice (some ad423) l0_3.length c0_3) ∧ w'.cell? ad423 = some (.int .i64 ((rd_T27 l0_3 0).f0)) ∧ w'.cell? ⟨ad423.block, ad423.off + 1, none⟩ = some (.int .i64 ((rd_T27 l0_3 0).f1)) ∧ w'.cell? ⟨ad423.block, ad423.off + 2, none⟩ = some (.int .i64 ((rd_T27 l0_3 0).f2)) ∧ w'.cell? ⟨ad423.block, ad423.off + 3, none⟩ = some (.slice A423_3 ((rd_T27 l0_3 0).f3).length c423_3) ∧ w'.cell? ⟨ad423.block, ad423.off + 4, none⟩ = some (.int .i64 ((rd_T27 l0_3 1).f0)) ∧ w'.cell? ⟨ad423.block, ad423.off + 4 + 1, none⟩ = some (.int .i64 ((rd_T27 l0_3 1).f1)) ∧ w'.cell? ⟨ad423.block, ad423.off + 4 + 2, none⟩ = some (.int .i64 ((rd_T27 l0_3 1).f2)) ∧ w'.cell? ⟨ad423.block, ad423.off + 4 + 3, none⟩ = some (.slice A425_3 ((rd_T27 l0_3 1).f3).length c425_3)) (ds := []) #[false, false, false, false, false, false, false, false, false, false, false, false, false, false, false, false, false, false] sqk rfl rfl (sa4 BK419.out ⟨(cl HB hw423_0), (cl HB hw423_1), (cl HB hw423_2), (cl HB hw423_3), (cl HB hw425_0), (cl HB hw425_1), (cl HB hw425_2), (cl HB hw425_3)⟩) (fun hHeld => ?_); refine with_tabW impl_formatCond.tab7 impl_formatCond.bits7 (fun HT_ HW_ => ?_)
             generalize wc.drew = w30 at BK419 HB HR423_3 HR425_3 hx423_0 hx423_1 hx423_2 hx423_3 hx425_0 hx425_1 hx425_2 hx425_3 hHeld ⊢
             refine pu 0 23 ?_; refine pu 7 30 ?_; refine pu 10 33 ?_; refine ta 1 24 ?_; refine pu 2 25 ?_; refine ta 3 26 ?_; refine ta 11 34 ?_; refine pu 12 35 ?_; refine ta 13 36 ?_
             refine on 4 (some 27) (fun K hK => ?_)
             refine goes_ Tryd.func19 sqk rfl #[.agg #[.int .i64 ((rd_T27 l0_3 0).f0), .int .i64 ((rd_T27 l0_3 0).f1), .int .i64 ((rd_T27 l0_3 0).f2), .slice A423_3 ((rd_T27 l0_3 0).f3).length c423_3]] (by rfl) rfl rfl sqm ?_
             with_reducible refine (ih kj12 (by have := HJ12.out; omega) ((rd_T27 l0_3 0).f0) ((rd_T27 l0_3 0).f1) ((rd_T27 l0_3 0).f2) _ _ ((rd_T27 l0_3 0).f3) t424 _ ?side1 ?side2 A21.out (HTab.out.below sqh)).mono ?_
             (case side1 => repeat (first | exact (Kd.C_below HR423_3.out HB.out) | (with_reducible refine Kd.C_alloc ?_ _) | (with_reducible refine Kd.C_drewN ?_ _) | (with_reducible refine Kd.C_drew ?_)))
             (case side2 => exact HC423_3.out)
             rintro e w31 ⟨rfl, hb⟩
             refine ⟨_, rfl, ?_⟩
             replace BK419 := Aside0.mk (blk_below (bo BK419) hb)
             replace HB := Aside0.mk (below_step sqh hb)
             (try clear hb)
             (try clear hb2)
             (try clear hk)
             (try clear hi)
             refine hK.out _ _ (sa4 BK419.out ⟨(cl HB hw423_0), (cl HB hw423_1), (cl HB hw423_2), (cl HB hw423_3), (cl HB hw425_0), (cl HB hw425_1), (cl HB hw425_2), (cl HB hw425_3)⟩) (fun hHeld => ?_)
             clear hK K; refine no 27 ?_; refine pu 5 28 ?_; refine pu 6 29 ?_; refine pu 8 31 ?_; refine pu 9 32 ?_
             refine on 14 (some 37) (fun K hK => ?_)
             refine goes_ Tryd.func19 sqk rfl #[.agg #[.int .i64 ((rd_T27 l0_3 1).f0), .int .i64 ((rd_T27 l0_3 1).f1), .int .i64 ((rd_T27 l0_3 1).f2), .slice A425_3 ((rd_T27 l0_3 1).f3).length c425_3]] (by rfl) rfl rfl sqm ?_
             with_reducible refine (ih kj12 (by have := HJ12.out; omega) ((rd_T27 l0_3 1).f0) ((rd_T27 l0_3 1).f1) ((rd_T27 l0_3 1).f2) _ _ ((rd_T27 l0_3 1).f3) t426 _ ?side1 ?side2 A27.out (HTab.out.below sqh)).mono ?_
             (case side1 => repeat (first | exact (Kd.C_below HR425_3.out HB.out) | (with_reducible refine Kd.C_alloc ?_ _) | (with_reducible refine Kd.C_drewN ?_ _) | (with_reducible refine Kd.C_drew ?_)))
             (case side2 => exact HC425_3.out)
             rintro e w32 ⟨rfl, hb⟩
             refine ⟨_, rfl, ?_⟩
             replace BK419 := Aside0.mk (blk_below (bo BK419) hb)
             replace HB := Aside0.mk (below_step sqh hb)
             (try clear hb)
             (try clear hb2)
             (try clear hk)
             (try clear hi)
             refine hK.out _ _ (sa4 BK419.out ⟨(cl HB hw423_0), (cl HB hw423_1), (cl HB hw423_2), (cl HB hw423_3), (cl HB hw425_0), (cl HB hw425_1), (cl HB hw425_2), (cl HB hw425_3)⟩) (fun hHeld => ?_)
             clear hK K; refine no 37 ?_; refine pu 15 38 ?_; refine pu 16 39 ?_; refine pu 17 2 ?_
             refine dn ?_
             try go_wp2
             go_ret
             exact ⟨sqe, sqh⟩
            ·rw [if_neg c29] at H
             exact absurd H (by simp)
           ·rw [if_neg c28] at H
            exact absurd H (by simp)
          ·rw [if_neg c26] at H
           exact absurd H (by simp)
         ·rw [if_neg c25] at H
          exact absurd H (by simp)
        ·rw [if_neg c24] at H
         exact absurd H (by simp)
       ·rw [if_neg c23] at H
        exact absurd H (by simp)
      ·rw [if_neg c22] at H
       exact absurd H (by simp)
     ·rw [if_neg c20] at H
      exact absurd H (by simp)
    ·replace c19 := Bool.eq_false_iff.mpr c19
     subst c19
     replace H := iF H
     have HC33 := Aside0.mk H
     clear H
     go_upto_region 8 with (fail)
     go_cut [47] (fun v47 wc => ∃ (kq : Nat) (x47_32 : Bool), v47 = .bool x47_32 ∧ Aside0 (impl_formatCond.j1 kq t420 x47_32 a0_0 a0_1 a0_2 l0_3 = some r) ∧ Aside0 (kq ≤ kj12) ∧ Aside0 (wc.heap[gb419]? = some (.cells #[.int .i64 a0_0, .int .i64 a0_1, .int .i64 a0_2, (.slice A0_3 l0_3.length c0_3)] 27 (0, 0))) ∧ Aside0 (Below w.heap.size w wc))
     case first =>
      have H := HC33.out
      clear HC33
      by_cases c34 : a0_0 = 1
      ·rw [if_pos c34] at H
       have c34b0 : (a0_0 == 1) = true := beq_iff_eq.mpr c34
       have c34b1 : (a0_0 != 1) = false := bne_eq_false_iff_eq.mpr c34
       clear c34
       (first | rw [c34b0] | (simp only [i64_w, i32_w]; rw [c34b0]) | skip)
       have H' := Aside0.mk H
       clear H
       obtain ⟨hcz35_0, hcz35_1, hcz35_2, hcz35_3, hfz35_0, hfz35_1, hfz35_2, hfz35_3⟩ := sd4 BK419.out
       go_wp2
       go_meet
       case rel => exact ⟨_, (false), sqr, H', ⟨by have := HJ12.out; first | omega | exact Nat.le_refl _⟩, ⟨sqb BK419.out⟩, ⟨sqh⟩⟩
      ·rw [if_neg c34] at H
       have c34b0 : (a0_0 == 1) = false := beq_eq_false_iff_ne.mpr c34
       have c34b1 : (a0_0 != 1) = true := bne_iff_ne.mpr c34
       (first | rw [c34b0] | (simp only [i64_w, i32_w]; rw [c34b0]) | skip)
       have H' := Aside0.mk H
       clear H
       obtain ⟨hcz36_0, hcz36_1, hcz36_2, hcz36_3, hfz36_0, hfz36_1, hfz36_2, hfz36_3⟩ := sd4 BK419.out
       go_wp2
       go_meet
       case rel => exact ⟨_, ((a0_0 != 3)), sqr, H', ⟨by have := HJ12.out; first | omega | exact Nat.le_refl _⟩, ⟨sqb BK419.out⟩, ⟨sqh⟩⟩
     case rest =>
      clear HC33; try clear c1; try clear c2; try clear p2; try clear c3; try clear c3b0; try clear c3b1; try clear c4; try clear c4b0; try clear c4b1; try clear c4b2; try clear p4; try clear q4; try clear hx4; try clear qi4; try clear c5; try clear c5b0; try clear c5b1; try clear c7; try clear c7b0; try clear c7b1; try clear c7b2; try clear c18; try clear c18b0; try clear c18b1; try clear c19; try clear c20; try clear c20b0; try clear c20b1; try clear c22; try clear c22b0; try clear c22b1; try clear c22b2; try clear c23; try clear c23b0; try clear c23b1; try clear c23b2; try clear c24; try clear c24b0; try clear c24b1; try clear c24b2; try clear c25; try clear c25b0; try clear c25b1; try clear c25b2; try clear c26; try clear c26b0; try clear c26b1; try clear c28; try clear c28b0; try clear c28b1; try clear c28b2; try clear c29; try clear c29b0; try clear c29b1; try clear c29b2; try clear c34
      try clear c34b0; try clear c34b1; try clear hcz11_0; try clear hcz11_1; try clear hcz11_2; try clear hcz11_3; try clear hcz15_0; try clear hcz15_1; try clear hcz15_2; try clear hcz15_3; try clear hcz17_0; try clear hcz17_1; try clear hcz17_2; try clear hcz17_3; try clear hcz35_0; try clear hcz35_1; try clear hcz35_2; try clear hcz35_3; try clear hcz36_0; try clear hcz36_1; try clear hcz36_2; try clear hcz36_3; try clear hcz9_0; try clear hcz9_1; try clear hcz9_2; try clear hcz9_3; try clear hfz11_0; try clear hfz11_1; try clear hfz11_2; try clear hfz11_3; try clear hfz15_0; try clear hfz15_1; try clear hfz15_2; try clear hfz15_3; try clear hfz17_0; try clear hfz17_1; try clear hfz17_2; try clear hfz17_3; try clear hfz35_0; try clear hfz35_1; try clear hfz35_2; try clear hfz35_3; try clear hfz36_0; try clear hfz36_1; try clear hfz36_2; try clear hfz36_3; try clear hfz9_0; try clear hfz9_1
      try clear hfz9_2; try clear hfz9_3; try clear hx421_0; try clear hx421_1; try clear hx421_2; try clear hx421_3; try clear hx423_0; try clear hx423_1; try clear hx423_2; try clear hx423_3; try clear hx425_0; try clear hx425_1; try clear hx425_2; try clear hx425_3; try clear p2; try clear p4; try clear p421; try clear p423; try clear p425; try clear q4; try clear q421; try clear q423; try clear q425
      obtain ⟨kq, x47_32, rfl, HA, HJ32, BK419, HB⟩ := hcut
      cases kq with
      | zero => exact absurd HA.out (by simp [impl_formatCond.j1])
      | succ kj32 =>
       have H := HA.out
       clear HA
       simp only [impl_formatCond.j1] at H
       have HC37 := Aside0.mk H
       clear H
       go_upto_if 47 with (fail)
       go_cut [3] (fun v3 wc => ∃ (kq : Nat) (x3_36 : ByteArray), v3 = .string x3_36 ∧ Aside0 (impl_formatCond.j2 kq x3_36 a0_0 a0_1 a0_2 l0_3 = some r) ∧ Aside0 (kq ≤ kj32) ∧ Aside0 (wc.heap[gb419]? = some (.cells #[.int .i64 a0_0, .int .i64 a0_1, .int .i64 a0_2, (.slice A0_3 l0_3.length c0_3)] 27 (0, 0))) ∧ Aside0 (Below w.heap.size w wc))
       case first =>
        have H := HC37.out
        clear HC37
        by_cases c38 : x47_32 = true
        ·subst c38
         replace H := iT H
         obtain ⟨t427, A39, H⟩ := bA H
         by_cases c40 : 1 + t427.size ≤ 9223372036854775807
         ·rw [if_pos c40] at H
          have c40b0 := eq_true c40
          have c40b1 : decide (1 + t427.size ≤ 9223372036854775807) = true := decide_eq_true c40
          try have c40b2 : (9223372036854775807 < 1 + t427.size) = False := eq_false (Nat.not_lt.2 c40)
          by_cases c41 : t420.size + ((⟨#[32]⟩ : ByteArray) ++ t427).size ≤ 9223372036854775807
          ·rw [if_pos c41] at H
           have c41b0 := eq_true c41
           have c41b1 : decide (t420.size + ((⟨#[32]⟩ : ByteArray) ++ t427).size ≤ 9223372036854775807) = true := decide_eq_true c41
           try have c41b2 : (9223372036854775807 < t420.size + ((⟨#[32]⟩ : ByteArray) ++ t427).size) = False := eq_false (Nat.not_lt.2 c41)
           try have c41b3 : (9223372036854775807 < t420.size + (1 + t427.size)) = False := eq_false (Nat.not_lt.2 (show t420.size + (1 + t427.size) ≤ 9223372036854775807 from by have hh := c41; simp only [ByteArray.size_append] at hh; exact hh))
           have H' := Aside0.mk H
           clear H
           obtain ⟨hcz42_0, hcz42_1, hcz42_2, hcz42_3, hfz42_0, hfz42_1, hfz42_2, hfz42_3⟩ := sd4 BK419.out
           go_wp2_with (first | ((with_reducible refine gate_callee (f := 39) rfl ?_); refine goesL_ (some 51) rfl rfl Tryd.func39 sqk rfl #[.int .i64 a0_1] rfl sqm ?_; (with_reducible refine (impl_FormatInt.calls a0_1 t427 _ A39.out (HTab.out.below sqh)).mono ?_); rintro e w43 ⟨rfl, hb⟩; refine ⟨_, rfl, ?_⟩; replace BK419 := Aside0.mk (blk_below (bo BK419) hb); replace HB := Aside0.mk (below_step sqh hb); (try clear hb)))
           go_meet
           case rel => exact ⟨_, (t420 ++ ((⟨#[32]⟩ : ByteArray) ++ t427)), sqr, H', ⟨by have := HJ12.out; have := HJ32.out; first | omega | exact Nat.le_refl _⟩, ⟨sqb BK419.out⟩, ⟨sqh⟩⟩
          ·rw [if_neg c41] at H
           exact absurd H (by simp)
         ·rw [if_neg c40] at H
          exact absurd H (by simp)
        ·replace c38 := Bool.eq_false_iff.mpr c38
         subst c38
         replace H := iF H
         have H' := Aside0.mk H
         clear H
         go_wp2
         go_meet
         case rel => exact ⟨_, (t420), sqr, H', ⟨by have := HJ12.out; have := HJ32.out; first | omega | exact Nat.le_refl _⟩, ⟨sqb BK419.out⟩, ⟨sqh⟩⟩
       case rest =>
        clear HC37; try clear c1; try clear c2; try clear p2; try clear c3; try clear c3b0; try clear c3b1; try clear c4; try clear c4b0; try clear c4b1; try clear c4b2; try clear p4; try clear q4; try clear hx4; try clear qi4; try clear c5; try clear c5b0; try clear c5b1; try clear c7; try clear c7b0; try clear c7b1; try clear c7b2; try clear c18; try clear c18b0; try clear c18b1; try clear c19; try clear c20; try clear c20b0; try clear c20b1; try clear c22; try clear c22b0; try clear c22b1; try clear c22b2; try clear c23; try clear c23b0; try clear c23b1; try clear c23b2; try clear c24; try clear c24b0; try clear c24b1; try clear c24b2; try clear c25; try clear c25b0; try clear c25b1; try clear c25b2; try clear c26; try clear c26b0; try clear c26b1; try clear c28; try clear c28b0; try clear c28b1; try clear c28b2; try clear c29; try clear c29b0; try clear c29b1; try clear c29b2
        try clear c34; try clear c34b0; try clear c34b1; try clear c38; try clear c39; try clear c40; try clear c40b0; try clear c40b1; try clear c40b2; try clear c41; try clear c41b0; try clear c41b1; try clear c41b2; try clear c42; try clear p42; try clear q42; try clear hx42; try clear qi42; try clear hcz11_0; try clear hcz11_1; try clear hcz11_2; try clear hcz11_3; try clear hcz15_0; try clear hcz15_1; try clear hcz15_2; try clear hcz15_3; try clear hcz17_0; try clear hcz17_1; try clear hcz17_2; try clear hcz17_3; try clear hcz35_0; try clear hcz35_1; try clear hcz35_2; try clear hcz35_3; try clear hcz36_0; try clear hcz36_1; try clear hcz36_2; try clear hcz36_3; try clear hcz42_0; try clear hcz42_1; try clear hcz42_2; try clear hcz42_3; try clear hcz9_0; try clear hcz9_1; try clear hcz9_2; try clear hcz9_3; try clear hfz11_0; try clear hfz11_1; try clear hfz11_2; try clear hfz11_3
        try clear hfz15_0; try clear hfz15_1; try clear hfz15_2; try clear hfz15_3; try clear hfz17_0; try clear hfz17_1; try clear hfz17_2; try clear hfz17_3; try clear hfz35_0; try clear hfz35_1; try clear hfz35_2; try clear hfz35_3; try clear hfz36_0; try clear hfz36_1; try clear hfz36_2; try clear hfz36_3; try clear hfz42_0; try clear hfz42_1; try clear hfz42_2; try clear hfz42_3; try clear hfz9_0; try clear hfz9_1; try clear hfz9_2; try clear hfz9_3; try clear hx421_0; try clear hx421_1; try clear hx421_2; try clear hx421_3; try clear hx423_0; try clear hx423_1; try clear hx423_2; try clear hx423_3; try clear hx425_0; try clear hx425_1; try clear hx425_2; try clear hx425_3; try clear p2; try clear p4; try clear p421; try clear p423; try clear p425; try clear q4; try clear q421; try clear q423; try clear q425
        obtain ⟨kq, x3_36, rfl, HA, HJ36, BK419, HB⟩ := hcut
        cases kq with
        | zero => exact absurd HA.out (by simp [impl_formatCond.j2])
        | succ kj36 =>
         have H := HA.out
         clear HA
         simp only [impl_formatCond.j2] at H
         obtain ⟨t428, A44, H⟩ := bA H
         by_cases c45 : t428 = true
         ·subst c45
          replace H := iT H
          obtain ⟨t429, A46, H⟩ := bA H
          by_cases c47 : 1 + t429.size ≤ 9223372036854775807
          ·rw [if_pos c47] at H
           have c47b0 := eq_true c47
           have c47b1 : decide (1 + t429.size ≤ 9223372036854775807) = true := decide_eq_true c47
           try have c47b2 : (9223372036854775807 < 1 + t429.size) = False := eq_false (Nat.not_lt.2 c47)
           by_cases c48 : x3_36.size + ((⟨#[32]⟩ : ByteArray) ++ t429).size ≤ 9223372036854775807
           ·rw [if_pos c48] at H
            have c48b0 := eq_true c48
            have c48b1 : decide (x3_36.size + ((⟨#[32]⟩ : ByteArray) ++ t429).size ≤ 9223372036854775807) = true := decide_eq_true c48
            try have c48b2 : (9223372036854775807 < x3_36.size + ((⟨#[32]⟩ : ByteArray) ++ t429).size) = False := eq_false (Nat.not_lt.2 c48)
            try have c48b3 : (9223372036854775807 < x3_36.size + (1 + t429.size)) = False := eq_false (Nat.not_lt.2 (show x3_36.size + (1 + t429.size) ≤ 9223372036854775807 from by have hh := c48; simp only [ByteArray.size_append] at hh; exact hh))
            obtain rfl := Option.some.inj H
            obtain ⟨hcz49_0, hcz49_1, hcz49_2, hcz49_3, hfz49_0, hfz49_1, hfz49_2, hfz49_3⟩ := sd4 BK419.out
            go_wp2_with (first | ((with_reducible refine gate_callee (f := 36) rfl ?_); refine goesL_ (some 56) rfl rfl Tryd.func36 sqk rfl #[.int .i64 a0_0, .int .i64 2, .int .i64 5] rfl sqm ?_; (with_reducible refine (impl_InRange.calls a0_0 2 5 true _ A44.out).mono ?_); rintro e w' ⟨rfl, ⟨nd, rfl⟩⟩; refine ⟨_, rfl, ?_⟩) | ((with_reducible refine gate_callee (f := 39) rfl ?_); refine goesL_ (some 60) rfl rfl Tryd.func39 sqk rfl #[.int .i64 a0_2] rfl sqm ?_; (with_reducible refine (impl_FormatInt.calls a0_2 t429 _ A46.out (HTab.out.below sqh)).mono ?_); rintro e w50 ⟨rfl, hb⟩; refine ⟨_, rfl, ?_⟩; replace BK419 := Aside0.mk (blk_below (bo BK419) hb); replace HB := Aside0.mk (below_step sqh hb); (try clear hb)))
            go_ret
            exact ⟨sqe, sqh⟩
           ·rw [if_neg c48] at H
            exact absurd H (by simp)
          ·rw [if_neg c47] at H
           exact absurd H (by simp)
         ·replace c45 := Bool.eq_false_iff.mpr c45
          subst c45
          replace H := iF H
          obtain rfl := Option.some.inj H
          obtain ⟨hcz51_0, hcz51_1, hcz51_2, hcz51_3, hfz51_0, hfz51_1, hfz51_2, hfz51_3⟩ := sd4 BK419.out
          go_wp2_with (first | ((with_reducible refine gate_callee (f := 36) rfl ?_); refine goesL_ (some 56) rfl rfl Tryd.func36 sqk rfl #[.int .i64 a0_0, .int .i64 2, .int .i64 5] rfl sqm ?_; (with_reducible refine (impl_InRange.calls a0_0 2 5 false _ A44.out).mono ?_); rintro e w' ⟨rfl, ⟨nd, rfl⟩⟩; refine ⟨_, rfl, ?_⟩))
          go_ret
          exact ⟨sqe, sqh⟩

end Go.Proofs.YtilcmgdjfhhcdaaDoor.XFnTexts
