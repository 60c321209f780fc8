/- Written by this session's own program (wip/xprint, which runs over the kit's print): what the functions that the law reaches come to, each proved; and the law's row. Conditions: none. -/
import Derived.Test.YtilcmgdjfhhcdaaDoorUFnTextsSq
import Derived.Test.YtilcmgdjfhhcdaaDoorUFnTextsx0
import Derived.Test.YtilcmgdjfhhcdaaDoorUFnTextsx2
namespace Go.Proofs.YtilcmgdjfhhcdaaDoor.XFnTexts
open Go.RowKit Go.Proofs.YtilcmgdjfhhcdaaDoorW.PrintWords Go.Proofs.YtilcmgdjfhhcdaaDoorW.PrintLast Go.Proofs.YtilcmgdjfhhcdaaDoorW.PrintMore Go.Proofs.YtilcmgdjfhhcdaaDoorSq
attribute [local go_sem] max2_int min2_int max_two min_two max_three min_three max_four min_four   -- for this text's walks alone
set_option linter.unusedVariables false
set_option linter.unusedSimpArgs false

/-! ### spec_l16Text: function 26 -/
mutual
def spec_l16Text.j0 : Nat → ByteArray → Int → Bool → Int → Int → Int → List (S27) → Option (ByteArray)
 | 0, _, _, _, _, _, _, _ => none
 | k + 1, x3, x8, x9, x155000, x155001, x155002, x155003 => if x9 = true then (if x3.size + 1 ≤ 9223372036854775807 then ((spec_FormatInt.f k x155001).bind fun t156 => (if (x3 ++ (⟨#[32]⟩ : ByteArray)).size + t156.size ≤ 9223372036854775807 then (if ((x3 ++ (⟨#[32]⟩ : ByteArray)) ++ t156).size + 1 ≤ 9223372036854775807 then ((spec_FormatInt.f k x155002).bind fun t157 => (if (((x3 ++ (⟨#[32]⟩ : ByteArray)) ++ t156) ++ (⟨#[32]⟩ : ByteArray)).size + t157.size ≤ 9223372036854775807 then (some ((((x3 ++ (⟨#[32]⟩ : ByteArray)) ++ t156) ++ (⟨#[32]⟩ : ByteArray)) ++ t157)) else (none))) else (none)) else (none))) else (none)) else (if x8 = 3 then (if x3.size + 1 ≤ 9223372036854775807 then ((spec_FormatInt.f k x155002).bind fun t158 => (if (x3 ++ (⟨#[32]⟩ : ByteArray)).size + t158.size ≤ 9223372036854775807 then (some ((x3 ++ (⟨#[32]⟩ : ByteArray)) ++ t158)) else (none))) else (none)) else (if x8 = 6 then (if x3.size + 1 ≤ 9223372036854775807 then ((spec_FormatInt.f k x155001).bind fun t159 => (if (x3 ++ (⟨#[32]⟩ : ByteArray)).size + t159.size ≤ 9223372036854775807 then (some ((x3 ++ (⟨#[32]⟩ : ByteArray)) ++ t159)) else (none))) else (none)) else (if x8 = 7 then (if x3.size + 1 ≤ 9223372036854775807 then (if 0 < (x155003.length : Int) then ((spec_l16Text.f k ((rd_T27 x155003 0).f0) ((rd_T27 x155003 0).f1) ((rd_T27 x155003 0).f2) ((rd_T27 x155003 0).f3)).bind fun t161 => (if (x3 ++ (⟨#[32]⟩ : ByteArray)).size + t161.size ≤ 9223372036854775807 then (some ((x3 ++ (⟨#[32]⟩ : ByteArray)) ++ t161)) else (none))) else (none)) else (none)) else (if x8 = 8 then (spec_l16Text.j1 k x3 (x8 == 8) x155000 x155001 x155002 x155003) else (spec_l16Text.j1 k x3 (x8 == 9) x155000 x155001 x155002 x155003)))))
def spec_l16Text.j1 : Nat → ByteArray → Bool → Int → Int → Int → List (S27) → Option (ByteArray)
 | 0, _, _, _, _, _, _ => none
 | k + 1, x3, x50, x155000, x155001, x155002, x155003 => if x50 = true then (if 0 < (x155003.length : Int) then ((spec_l16Text.f k ((rd_T27 x155003 0).f0) ((rd_T27 x155003 0).f1) ((rd_T27 x155003 0).f2) ((rd_T27 x155003 0).f3)).bind fun t163 => (if 1 + t163.size ≤ 9223372036854775807 then (if ((⟨#[40]⟩ : ByteArray) ++ t163).size + 1 ≤ 9223372036854775807 then (if (((⟨#[40]⟩ : ByteArray) ++ t163) ++ (⟨#[32]⟩ : ByteArray)).size + x3.size ≤ 9223372036854775807 then (if ((((⟨#[40]⟩ : ByteArray) ++ t163) ++ (⟨#[32]⟩ : ByteArray)) ++ x3).size + 1 ≤ 9223372036854775807 then (if 1 < (x155003.length : Int) then ((spec_l16Text.f k ((rd_T27 x155003 1).f0) ((rd_T27 x155003 1).f1) ((rd_T27 x155003 1).f2) ((rd_T27 x155003 1).f3)).bind fun t165 => (if (((((⟨#[40]⟩ : ByteArray) ++ t163) ++ (⟨#[32]⟩ : ByteArray)) ++ x3) ++ (⟨#[32]⟩ : ByteArray)).size + t165.size ≤ 9223372036854775807 then (if ((((((⟨#[40]⟩ : ByteArray) ++ t163) ++ (⟨#[32]⟩ : ByteArray)) ++ x3) ++ (⟨#[32]⟩ : ByteArray)) ++ t165).size + 1 ≤ 9223372036854775807 then (some (((((((⟨#[40]⟩ : ByteArray) ++ t163) ++ (⟨#[32]⟩ : ByteArray)) ++ x3) ++ (⟨#[32]⟩ : ByteArray)) ++ t165) ++ (⟨#[41]⟩ : ByteArray))) else (none)) else (none))) else (none)) else (none)) else (none)) else (none)) else (none))) else (none)) else (some x3)
def spec_l16Text.f : Nat → Int → Int → Int → List (S27) → Option (ByteArray)
 | 0, _, _, _, _ => none
 | k + 1, a0_0, a0_1, a0_2, l0_3 => (spec_CondName.f a0_0).bind fun t155 => (if a0_0 = 2 then (spec_l16Text.j0 k t155 a0_0 (a0_0 == 2) a0_0 a0_1 a0_2 l0_3) else (if a0_0 = 4 then (spec_l16Text.j0 k t155 a0_0 (a0_0 == 4) a0_0 a0_1 a0_2 l0_3) else (spec_l16Text.j0 k t155 a0_0 (a0_0 == 5) a0_0 a0_1 a0_2 l0_3)))
end
def spec_l16Text.T6 : Bool × List (List Nat × List Nat) := (true, [([], []), ([0], [0]), ([], []), ([2], [2]), ([3], [3]), ([1, 4], [1, 4]), ([5], [5]), ([], []), ([7], [7]), ([8, 4], [8]), ([6, 9], [6, 9]), ([10, 9, 0, 1, 2, 3, 4, 5, 6, 7, 8, 9, 10], [10])])
def spec_l16Text.B6 : List Nat := [0, 1, 0, 4, 12, 31, 63, 0, 128, 412, 1023, 2047]
theorem spec_l16Text.tab6 : rtab .any (opsOf Tryd.f26 6) = spec_l16Text.T6 := by kernel_rfl
theorem spec_l16Text.bits6 : waitsOk spec_l16Text.T6.2 spec_l16Text.B6 = true := by kernel_rfl
def spec_l16Text.T15 : Bool × List (List Nat × List Nat) := (true, [([], []), ([0], [0]), ([1], [1]), ([2], [2]), ([3], [3]), ([4], [4]), ([5], [5]), ([], []), ([6, 7], [6, 7]), ([8], [8]), ([], []), ([10], [10]), ([11], [11]), ([12], [12]), ([13, 4], [13]), ([9, 14], [9, 14]), ([15], [15]), ([16, 14, 0, 1, 2, 3, 4, 5, 6, 7, 8, 9, 10, 11, 12, 13, 14, 15, 16], [16])])
def spec_l16Text.B15 : List Nat := [0, 1, 3, 7, 15, 31, 63, 0, 255, 511, 0, 1024, 3072, 7168, 15391, 32767, 65535, 131071]
theorem spec_l16Text.tab15 : rtab .any (opsOf Tryd.f26 15) = spec_l16Text.T15 := by kernel_rfl
theorem spec_l16Text.bits15 : waitsOk spec_l16Text.T15.2 spec_l16Text.B15 = true := by kernel_rfl
set_option maxHeartbeats 8000000 in
set_option maxRecDepth 100000 in
theorem spec_l16Text.calls (k : Nat) : ∀ (a0_0 : Int) (a0_1 : Int) (a0_2 : Int) (A0_3 : Option Addr) (c0_3 : Nat) (l0_3 : List (S27)) (r : ByteArray) (w : World) (hr0_3 : Kd.C k27 w A0_3 l0_3.length l0_3) (hc0_3 : l0_3.length ≤ c0_3) (h : spec_l16Text.f k a0_0 a0_1 a0_2 l0_3 = some r),
  Calls Tryd.prog 26 #[.agg #[.int .i64 a0_0, .int .i64 a0_1, .int .i64 a0_2, .slice A0_3 l0_3.length c0_3]] w fun e w' => e = .returned (.string r) ∧ Below w.heap.size w w' := by
 induction k using Nat.strongRecOn with
 | _ k ih =>
 intro a0_0 a0_1 a0_2 A0_3 c0_3 l0_3 r w hr0_3 hc0_3 h
 cases k with
 | zero => exact absurd h (by simp [spec_l16Text.f])
 | succ k =>
 simp only [spec_l16Text.f] at h
 have hu27 := Tryd.underlying27
 have HR0_3 := Aside0.mk hr0_3
 have HC0_3 := Aside0.mk hc0_3
 clear hr0_3 hc0_3
 have HB := Aside0.mk (Below.refl w.heap.size w)
 have H : ((spec_CondName.f a0_0).bind fun t155 => (if a0_0 = 2 then (spec_l16Text.j0 k t155 a0_0 (a0_0 == 2) a0_0 a0_1 a0_2 l0_3) else (if a0_0 = 4 then (spec_l16Text.j0 k t155 a0_0 (a0_0 == 4) a0_0 a0_1 a0_2 l0_3) else (spec_l16Text.j0 k t155 a0_0 (a0_0 == 5) a0_0 a0_1 a0_2 l0_3)))) = some r := h
 clear h
 obtain ⟨t155, A2, H⟩ := bA H
 have HC3 := Aside0.mk H
 clear H
 go_enter Tryd.func26, Tryd.ntmps26
 go_upto_if 9 with (first | ((with_reducible refine gate_dst (N := 1) rfl ?_); refine bx (N := 1) (cs := #[.int .i64 a0_0, .int .i64 a0_1, .int .i64 a0_2, .slice A0_3 l0_3.length c0_3]) (t := 27) ?_; intro gb154 hg w4 hbox hb; have BK154 := Aside0.mk (hbox); have GW154 := Aside0.mk ((by rw [hg]; exact (below_size sqh) : w.heap.size ≤ gb154)); have GE154 := Aside0.mk ((by rw [hg]; exact (below_size sqh) : w.heap.size ≤ gb154)); replace HB := Aside0.mk (below_step sqh hb); clear hb hbox hg; obtain ⟨hcz5_0, hcz5_1, hcz5_2, hcz5_3, hfz5_0, hfz5_1, hfz5_2, hfz5_3⟩ := sd4 BK154.out) | ((with_reducible refine gate_callee (f := 45) rfl ?_); refine goesL_ (some 6) rfl rfl Tryd.func45 sqk rfl #[.int .i64 a0_0] rfl sqm ?_; (with_reducible refine (spec_CondName.calls a0_0 t155 _ A2.out).mono ?_); rintro e w6 ⟨rfl, hb⟩; refine ⟨_, rfl, ?_⟩; replace BK154 := Aside0.mk (blk_below (bo BK154) hb); replace HB := Aside0.mk (below_step sqh hb); (try clear hb); obtain ⟨hcz7_0, hcz7_1, hcz7_2, hcz7_3, hfz7_0, hfz7_1, hfz7_2, hfz7_3⟩ := sd4 BK154.out))
 (try simp only [Act.put, List.setIfInBounds_toArray, List.set_cons_zero, List.set_cons_succ])
 go_cut [9] (fun v9 wc => ∃ (kq : Nat) (x9_2 : Bool), v9 = .bool x9_2 ∧ Aside0 (spec_l16Text.j0 kq t155 a0_0 x9_2 a0_0 a0_1 a0_2 l0_3 = some r) ∧ Aside0 (kq ≤ k) ∧ Aside0 (wc.heap[gb154]? = some (.cells #[.int .i64 a0_0, .int .i64 a0_1, .int .i64 a0_2, (.slice A0_3 l0_3.length c0_3)] 27 (0, 0))) ∧ Aside0 (Below w.heap.size w wc))
 case first =>
  have H := HC3.out
  clear HC3
  by_cases c8 : a0_0 = 2
  ·rw [if_pos c8] at H
   have c8b0 : (a0_0 == 2) = true := beq_iff_eq.mpr c8
   have c8b1 : (a0_0 != 2) = false := bne_eq_false_iff_eq.mpr c8
   clear c8
   (first | rw [c8b0] | (simp only [i64_w, i32_w]; rw [c8b0]) | skip)
   have H' := Aside0.mk H
   clear H
   go_wp2
   go_meet
   case rel => exact ⟨_, ((a0_0 == 2)), sqr, H', ⟨sqo⟩, ⟨sqb BK154.out⟩, ⟨sqh⟩⟩
  ·rw [if_neg c8] at H
   have c8b0 : (a0_0 == 2) = false := beq_eq_false_iff_ne.mpr c8
   have c8b1 : (a0_0 != 2) = true := bne_iff_ne.mpr c8
   (first | rw [c8b0] | (simp only [i64_w, i32_w]; rw [c8b0]) | skip)
   by_cases c9 : a0_0 = 4
   ·rw [if_pos c9] at H
    have c9b0 : (a0_0 == 4) = true := beq_iff_eq.mpr c9
    have c9b1 : (a0_0 != 4) = false := bne_eq_false_iff_eq.mpr c9
    clear c9
    have H' := Aside0.mk H
    clear H
    go_wp2
    go_meet
    case rel => exact ⟨_, ((a0_0 == 4)), sqr, H', ⟨sqo⟩, ⟨sqb BK154.out⟩, ⟨sqh⟩⟩
   ·rw [if_neg c9] at H
    have c9b0 : (a0_0 == 4) = false := beq_eq_false_iff_ne.mpr c9
    have c9b1 : (a0_0 != 4) = true := bne_iff_ne.mpr c9
    have H' := Aside0.mk H
    clear H
    go_wp2
    go_meet
    case rel => exact ⟨_, ((a0_0 == 5)), sqr, H', ⟨sqo⟩, ⟨sqb BK154.out⟩, ⟨sqh⟩⟩
 case rest =>
  clear HC3; try clear c2; try clear p2; try clear c4; try clear c8; try clear c8b0; try clear c8b1; try clear c9; try clear c9b0; try clear c9b1; try clear hcz5_0; try clear hcz5_1; try clear hcz5_2; try clear hcz5_3; try clear hcz7_0; try clear hcz7_1; try clear hcz7_2; try clear hcz7_3; try clear hfz5_0; try clear hfz5_1; try clear hfz5_2; try clear hfz5_3; try clear hfz7_0; try clear hfz7_1; try clear hfz7_2; try clear hfz7_3
  obtain ⟨kq, x9_2, rfl, HA, HJ2, BK154, HB⟩ := hcut
  cases kq with
  | zero => exact absurd HA.out (by simp [spec_l16Text.j0])
  | succ kj2 =>
   have H := HA.out
   clear HA
   simp only [spec_l16Text.j0] at H
   by_cases c10 : x9_2 = true
   ·subst c10
    replace H := iT H
    by_cases c11 : t155.size + 1 ≤ 9223372036854775807
    ·rw [if_pos c11] at H
     have c11b0 := eq_true c11
     have c11b1 : decide (t155.size + 1 ≤ 9223372036854775807) = true := decide_eq_true c11
     try have c11b2 : (9223372036854775807 < t155.size + 1) = False := eq_false (Nat.not_lt.2 c11)
     obtain ⟨t156, A12, H⟩ := bA H
     by_cases c13 : (t155 ++ (⟨#[32]⟩ : ByteArray)).size + t156.size ≤ 9223372036854775807
     ·rw [if_pos c13] at H
      have c13b0 := eq_true c13
      have c13b1 : decide ((t155 ++ (⟨#[32]⟩ : ByteArray)).size + t156.size ≤ 9223372036854775807) = true := decide_eq_true c13
      try have c13b2 : (9223372036854775807 < (t155 ++ (⟨#[32]⟩ : ByteArray)).size + t156.size) = False := eq_false (Nat.not_lt.2 c13)
      try have c13b3 : (9223372036854775807 < t155.size + 1 + t156.size) = False := eq_false (Nat.not_lt.2 (show t155.size + 1 + t156.size ≤ 9223372036854775807 from by have hh := c13; simp only [ByteArray.size_append] at hh; exact hh))
      by_cases c14 : ((t155 ++ (⟨#[32]⟩ : ByteArray)) ++ t156).size + 1 ≤ 9223372036854775807
      ·rw [if_pos c14] at H
       have c14b0 := eq_true c14
       have c14b1 : decide (((t155 ++ (⟨#[32]⟩ : ByteArray)) ++ t156).size + 1 ≤ 9223372036854775807) = true := decide_eq_true c14
       try have c14b2 : (9223372036854775807 < ((t155 ++ (⟨#[32]⟩ : ByteArray)) ++ t156).size + 1) = False := eq_false (Nat.not_lt.2 c14)
       try have c14b3 : (9223372036854775807 < t155.size + 1 + t156.size + 1) = False := eq_false (Nat.not_lt.2 (show t155.size + 1 + t156.size + 1 ≤ 9223372036854775807 from by have hh := c14; simp only [ByteArray.size_append] at hh; exact hh))
       obtain ⟨t157, A15, H⟩ := bA H
       by_cases c16 : (((t155 ++ (⟨#[32]⟩ : ByteArray)) ++ t156) ++ (⟨#[32]⟩ : ByteArray)).size + t157.size ≤ 9223372036854775807
       ·rw [if_pos c16] at H
        have c16b0 := eq_true c16
        have c16b1 : decide ((((t155 ++ (⟨#[32]⟩ : ByteArray)) ++ t156) ++ (⟨#[32]⟩ : ByteArray)).size + t157.size ≤ 9223372036854775807) = true := decide_eq_true c16
        try have c16b2 : (9223372036854775807 < (((t155 ++ (⟨#[32]⟩ : ByteArray)) ++ t156) ++ (⟨#[32]⟩ : ByteArray)).size + t157.size) = False := eq_false (Nat.not_lt.2 c16)
        try have c16b3 : (9223372036854775807 < t155.size + 1 + t156.size + 1 + t157.size) = False := eq_false (Nat.not_lt.2 (show t155.size + 1 + t156.size + 1 + t157.size ≤ 9223372036854775807 from by have hh := c16; simp only [ByteArray.size_append] at hh; exact hh))
        obtain rfl := Option.some.inj H
        try go_wp2
        replace BK154 := Aside0.mk (blk_drew BK154.out)
        replace HB := Aside0.mk (below_drew1 HB.out)
        refine start_ (n := 12) (S := fun w' => w'.cell? ⟨gb154, 0, none⟩ = some (.int .i64 a0_0) ∧ w'.cell? ⟨gb154, 1, none⟩ = some (.int .i64 a0_1) ∧ w'.cell? ⟨gb154, 2, none⟩ = some (.int .i64 a0_2) ∧ w'.cell? ⟨gb154, 3, none⟩ = some (.slice A0_3 l0_3.length c0_3)) (ds := []) #[false, false, false, false, false, false, false, false, false, false, false, false] sqk rfl rfl (sc4 BK154.out) (fun hHeld => ?_); refine with_tabW spec_l16Text.tab6 spec_l16Text.bits6 (fun HT_ HW_ => ?_)
        generalize wc.drew = w17 at BK154 HB hHeld ⊢
        refine pu 0 13 ?_; refine pu 1 14 ?_; refine pu 2 15 ?_; refine pu 7 20 ?_; refine ta 3 16 ?_; refine ta 8 21 ?_
        refine on 4 (some 17) (fun K hK => ?_)
        refine goes_ Tryd.func46 sqk rfl #[.int .i64 a0_1] (by rfl) rfl rfl sqm ?_
        with_reducible refine (spec_FormatInt.calls kj2 a0_1 t156 _ A12.out).mono ?_
        rintro e w18 ⟨rfl, hb⟩
        refine ⟨_, rfl, ?_⟩
        replace BK154 := Aside0.mk (blk_below (bo BK154) hb)
        replace HB := Aside0.mk (below_step sqh hb)
        (try clear hb)
        (try clear hb2)
        (try clear hk)
        (try clear hi)
        refine hK.out _ _ (sc4 BK154.out) (fun hHeld => ?_)
        clear hK K; refine no 17 ?_; refine pu 5 18 ?_; refine pu 6 19 ?_
        refine on 9 (some 22) (fun K hK => ?_)
        refine goes_ Tryd.func46 sqk rfl #[.int .i64 a0_2] (by rfl) rfl rfl sqm ?_
        with_reducible refine (spec_FormatInt.calls kj2 a0_2 t157 _ A15.out).mono ?_
        rintro e w19 ⟨rfl, hb⟩
        refine ⟨_, rfl, ?_⟩
        replace BK154 := Aside0.mk (blk_below (bo BK154) hb)
        replace HB := Aside0.mk (below_step sqh hb)
        (try clear hb)
        (try clear hb2)
        (try clear hk)
        (try clear hi)
        refine hK.out _ _ (sc4 BK154.out) (fun hHeld => ?_)
        clear hK K; refine no 22 ?_; refine pu 10 23 ?_; refine pu 11 2 ?_
        refine dn ?_
        try go_wp2
        go_ret
        exact ⟨sqe, sqh⟩
       ·rw [if_neg c16] at H
        exact absurd H (by simp)
      ·rw [if_neg c14] at H
       exact absurd H (by simp)
     ·rw [if_neg c13] at H
      exact absurd H (by simp)
    ·rw [if_neg c11] at H
     exact absurd H (by simp)
   ·replace c10 := Bool.eq_false_iff.mpr c10
    subst c10
    replace H := iF H
    by_cases c20 : a0_0 = 3
    ·rw [if_pos c20] at H
     have c20b0 : (a0_0 == 3) = true := beq_iff_eq.mpr c20
     have c20b1 : (a0_0 != 3) = false := bne_eq_false_iff_eq.mpr c20
     clear c20
     by_cases c21 : t155.size + 1 ≤ 9223372036854775807
     ·rw [if_pos c21] at H
      have c21b0 := eq_true c21
      have c21b1 : decide (t155.size + 1 ≤ 9223372036854775807) = true := decide_eq_true c21
      try have c21b2 : (9223372036854775807 < t155.size + 1) = False := eq_false (Nat.not_lt.2 c21)
      obtain ⟨t158, A22, H⟩ := bA H
      by_cases c23 : (t155 ++ (⟨#[32]⟩ : ByteArray)).size + t158.size ≤ 9223372036854775807
      ·rw [if_pos c23] at H
       have c23b0 := eq_true c23
       have c23b1 : decide ((t155 ++ (⟨#[32]⟩ : ByteArray)).size + t158.size ≤ 9223372036854775807) = true := decide_eq_true c23
       try have c23b2 : (9223372036854775807 < (t155 ++ (⟨#[32]⟩ : ByteArray)).size + t158.size) = False := eq_false (Nat.not_lt.2 c23)
       try have c23b3 : (9223372036854775807 < t155.size + 1 + t158.size) = False := eq_false (Nat.not_lt.2 (show t155.size + 1 + t158.size ≤ 9223372036854775807 from by have hh := c23; simp only [ByteArray.size_append] at hh; exact hh))
       obtain rfl := Option.some.inj H
       obtain ⟨hcz24_0, hcz24_1, hcz24_2, hcz24_3, hfz24_0, hfz24_1, hfz24_2, hfz24_3⟩ := sd4 BK154.out
       go_wp2_with (first | ((with_reducible refine gate_callee (f := 46) rfl ?_); refine goesL_ (some 30) rfl rfl Tryd.func46 sqk rfl #[.int .i64 a0_2] rfl sqm ?_; (with_reducible refine (spec_FormatInt.calls kj2 a0_2 t158 _ A22.out).mono ?_); rintro e w25 ⟨rfl, hb⟩; refine ⟨_, rfl, ?_⟩; replace BK154 := Aside0.mk (blk_below (bo BK154) hb); replace HB := Aside0.mk (below_step sqh hb); (try clear hb)))
       go_ret
       exact ⟨sqe, sqh⟩
      ·rw [if_neg c23] at H
       exact absurd H (by simp)
     ·rw [if_neg c21] at H
      exact absurd H (by simp)
    ·rw [if_neg c20] at H
     have c20b0 : (a0_0 == 3) = false := beq_eq_false_iff_ne.mpr c20
     have c20b1 : (a0_0 != 3) = true := bne_iff_ne.mpr c20
     by_cases c26 : a0_0 = 6
     ·rw [if_pos c26] at H
      have c26b0 : (a0_0 == 6) = true := beq_iff_eq.mpr c26
      have c26b1 : (a0_0 != 6) = false := bne_eq_false_iff_eq.mpr c26
      clear c26
      by_cases c27 : t155.size + 1 ≤ 9223372036854775807
      ·rw [if_pos c27] at H
       have c27b0 := eq_true c27
       have c27b1 : decide (t155.size + 1 ≤ 9223372036854775807) = true := decide_eq_true c27
       try have c27b2 : (9223372036854775807 < t155.size + 1) = False := eq_false (Nat.not_lt.2 c27)
       obtain ⟨t159, A28, H⟩ := bA H
       by_cases c29 : (t155 ++ (⟨#[32]⟩ : ByteArray)).size + t159.size ≤ 9223372036854775807
       ·rw [if_pos c29] at H
        have c29b0 := eq_true c29
        have c29b1 : decide ((t155 ++ (⟨#[32]⟩ : ByteArray)).size + t159.size ≤ 9223372036854775807) = true := decide_eq_true c29
        try have c29b2 : (9223372036854775807 < (t155 ++ (⟨#[32]⟩ : ByteArray)).size + t159.size) = False := eq_false (Nat.not_lt.2 c29)
        try have c29b3 : (9223372036854775807 < t155.size + 1 + t159.size) = False := eq_false (Nat.not_lt.2 (show t155.size + 1 + t159.size ≤ 9223372036854775807 from by have hh := c29; simp only [ByteArray.size_append] at hh; exact hh))
        obtain rfl := Option.some.inj H
        obtain ⟨hcz30_0, hcz30_1, hcz30_2, hcz30_3, hfz30_0, hfz30_1, hfz30_2, hfz30_3⟩ := sd4 BK154.out
        go_wp2_with (first | ((with_reducible refine gate_callee (f := 46) rfl ?_); refine goesL_ (some 38) rfl rfl Tryd.func46 sqk rfl #[.int .i64 a0_1] rfl sqm ?_; (with_reducible refine (spec_FormatInt.calls kj2 a0_1 t159 _ A28.out).mono ?_); rintro e w31 ⟨rfl, hb⟩; refine ⟨_, rfl, ?_⟩; replace BK154 := Aside0.mk (blk_below (bo BK154) hb); replace HB := Aside0.mk (below_step sqh hb); (try clear hb)))
        go_ret
        exact ⟨sqe, sqh⟩
       ·rw [if_neg c29] at H
        exact absurd H (by simp)
      ·rw [if_neg c27] at H
       exact absurd H (by simp)
     ·rw [if_neg c26] at H
      have c26b0 : (a0_0 == 6) = false := beq_eq_false_iff_ne.mpr c26
      have c26b1 : (a0_0 != 6) = true := bne_iff_ne.mpr c26
      by_cases c32 : a0_0 = 7
      ·rw [if_pos c32] at H
       have c32b0 : (a0_0 == 7) = true := beq_iff_eq.mpr c32
       have c32b1 : (a0_0 != 7) = false := bne_eq_false_iff_eq.mpr c32
       clear c32
       by_cases c33 : t155.size + 1 ≤ 9223372036854775807
       ·rw [if_pos c33] at H
        have c33b0 := eq_true c33
        have c33b1 : decide (t155.size + 1 ≤ 9223372036854775807) = true := decide_eq_true c33
        try have c33b2 : (9223372036854775807 < t155.size + 1) = False := eq_false (Nat.not_lt.2 c33)
        by_cases c34 : 0 < (l0_3.length : Int)
        ·rw [if_pos c34] at H
         have c34b0 : decide (0 < (l0_3.length : Int)) = true := decide_eq_true c34
         have c34b1 : decide (0 < l0_3.length) = true := decide_eq_true (by omega)
         clear c34
         obtain ⟨t161, A35, H⟩ := bA H
         by_cases c36 : (t155 ++ (⟨#[32]⟩ : ByteArray)).size + t161.size ≤ 9223372036854775807
         ·rw [if_pos c36] at H
          have c36b0 := eq_true c36
          have c36b1 : decide ((t155 ++ (⟨#[32]⟩ : ByteArray)).size + t161.size ≤ 9223372036854775807) = true := decide_eq_true c36
          try have c36b2 : (9223372036854775807 < (t155 ++ (⟨#[32]⟩ : ByteArray)).size + t161.size) = False := eq_false (Nat.not_lt.2 c36)
          try have c36b3 : (9223372036854775807 < t155.size + 1 + t161.size) = False := eq_false (Nat.not_lt.2 (show t155.size + 1 + t161.size ≤ 9223372036854775807 from by have hh := c36; simp only [ByteArray.size_append] at hh; exact hh))
          obtain rfl := Option.some.inj H
          obtain ⟨hcz37_0, hcz37_1, hcz37_2, hcz37_3, hfz37_0, hfz37_1, hfz37_2, hfz37_3⟩ := sd4 BK154.out
          have p160 : 0 ≤ (0 : Int) := (by omega)
          have q160 : 0 < (l0_3.length : Int) := of_decide_eq_true sqs
          obtain ⟨ad160, A160_3, c160_3, e160, hx160_0, hx160_1, hx160_2, hx160_3, hl160_3, hi160_3⟩ := at_T27 HR0_3.out 0 p160 q160
          cases e160
          have qi160 : (0 < l0_3.length) = True := eq_true (by omega)
          (try rw [show ((0 : Int)).toNat = 0 from rfl] at hx160_0)
          (try rw [show 0 * 4 = 0 from rfl] at hx160_0)
          (try rw [Addr.add_zero'] at hx160_0)
          (try rw [show ((0 : Int)).toNat = 0 from rfl] at hx160_1)
          (try rw [show 0 * 4 = 0 from rfl] at hx160_1)
          (try rw [Addr.add_zero'] at hx160_1)
          (try rw [show ((0 : Int)).toNat = 0 from rfl] at hx160_2)
          (try rw [show 0 * 4 = 0 from rfl] at hx160_2)
          (try rw [Addr.add_zero'] at hx160_2)
          (try rw [show ((0 : Int)).toNat = 0 from rfl] at hx160_3)
          (try rw [show 0 * 4 = 0 from rfl] at hx160_3)
          (try rw [Addr.add_zero'] at hx160_3)
          replace hx160_0 := cl HB hx160_0; replace hx160_1 := cl HB hx160_1; replace hx160_2 := cl HB hx160_2; replace hx160_3 := cl HB hx160_3
          have HR160_3 := Aside0.mk hi160_3
          have HC160_3 := Aside0.mk hl160_3
          clear hi160_3 hl160_3
          replace p160 := eq_true p160
          replace q160 := eq_true q160
          go_wp2_with (first | ((with_reducible refine gate_callee (f := 26) rfl ?_); refine goesL_ (some 48) rfl rfl Tryd.func26 sqk rfl #[.agg #[.int .i64 ((rd_T27 l0_3 0).f0), .int .i64 ((rd_T27 l0_3 0).f1), .int .i64 ((rd_T27 l0_3 0).f2), .slice A160_3 ((rd_T27 l0_3 0).f3).length c160_3]] rfl sqm ?_; (with_reducible refine (ih kj2 (by have := HJ2.out; omega) ((rd_T27 l0_3 0).f0) ((rd_T27 l0_3 0).f1) ((rd_T27 l0_3 0).f2) _ _ ((rd_T27 l0_3 0).f3) t161 _ ?side1 ?side2 A35.out).mono ?_); (case side1 => exact sqn (Kd.C_below HR160_3.out HB.out)); (case side2 => exact HC160_3.out); rintro e w38 ⟨rfl, hb⟩; refine ⟨_, rfl, ?_⟩; replace BK154 := Aside0.mk (blk_below (bo BK154) hb); replace HB := Aside0.mk (below_step sqh hb); (try clear hb)))
          go_ret
          exact ⟨sqe, sqh⟩
         ·rw [if_neg c36] at H
          exact absurd H (by simp)
        ·rw [if_neg c34] at H
         exact absurd H (by simp)
       ·rw [if_neg c33] at H
        exact absurd H (by simp)
      ·rw [if_neg c32] at H
       have c32b0 : (a0_0 == 7) = false := beq_eq_false_iff_ne.mpr c32
       have c32b1 : (a0_0 != 7) = true := bne_iff_ne.mpr c32
       have HC39 := Aside0.mk H
       clear H
       go_upto_if 50 with (fail)
       go_cut [50] (fun v50 wc => ∃ (kq : Nat) (x50_38 : Bool), v50 = .bool x50_38 ∧ Aside0 (spec_l16Text.j1 kq t155 x50_38 a0_0 a0_1 a0_2 l0_3 = some r) ∧ Aside0 (kq ≤ kj2) ∧ Aside0 (wc.heap[gb154]? = some (.cells #[.int .i64 a0_0, .int .i64 a0_1, .int .i64 a0_2, (.slice A0_3 l0_3.length c0_3)] 27 (0, 0))) ∧ Aside0 (Below w.heap.size w wc))
       case first =>
        have H := HC39.out
        clear HC39
        by_cases c40 : a0_0 = 8
        ·rw [if_pos c40] at H
         have c40b0 : (a0_0 == 8) = true := beq_iff_eq.mpr c40
         have c40b1 : (a0_0 != 8) = false := bne_eq_false_iff_eq.mpr c40
         clear c40
         (first | rw [c40b0] | (simp only [i64_w, i32_w]; rw [c40b0]) | skip)
         have H' := Aside0.mk H
         clear H
         go_wp2
         go_meet
         case rel => exact ⟨_, ((a0_0 == 8)), sqr, H', ⟨by have := HJ2.out; first | omega | exact Nat.le_refl _⟩, ⟨sqb BK154.out⟩, ⟨sqh⟩⟩
        ·rw [if_neg c40] at H
         have c40b0 : (a0_0 == 8) = false := beq_eq_false_iff_ne.mpr c40
         have c40b1 : (a0_0 != 8) = true := bne_iff_ne.mpr c40
         (first | rw [c40b0] | (simp only [i64_w, i32_w]; rw [c40b0]) | skip)
         have H' := Aside0.mk H
         clear H
         go_wp2
         go_meet
         case rel => exact ⟨_, ((a0_0 == 9)), sqr, H', ⟨by have := HJ2.out; first | omega | exact Nat.le_refl _⟩, ⟨sqb BK154.out⟩, ⟨sqh⟩⟩
       case rest =>
        clear HC39; try clear c1; try clear p1; try clear q1; try clear hx1; try clear qi1; try clear c2; try clear p2; try clear c3; try clear c4; try clear c8; try clear c8b0; try clear c8b1; try clear c9; try clear c9b0; try clear c9b1; try clear c10; try clear c11; try clear c11b0; try clear c11b1; try clear c11b2; try clear c13; try clear c13b0; try clear c13b1; try clear c13b2; try clear c14; try clear c14b0; try clear c14b1; try clear c14b2; try clear c16; try clear c16b0; try clear c16b1; try clear c16b2; try clear p16; try clear q16; try clear hx16; try clear qi16; try clear c20; try clear c20b0; try clear c20b1; try clear c21; try clear c21b0; try clear c21b1; try clear c21b2; try clear c23; try clear c23b0; try clear c23b1; try clear c23b2; try clear c26; try clear c26b0; try clear c26b1; try clear c27; try clear c27b0; try clear c27b1; try clear c27b2; try clear c29; try clear c29b0
        try clear c29b1; try clear c29b2; try clear c32; try clear c32b0; try clear c32b1; try clear c33; try clear c33b0; try clear c33b1; try clear c33b2; try clear c34; try clear c34b0; try clear c34b1; try clear c36; try clear c36b0; try clear c36b1; try clear c36b2; try clear c40; try clear c40b0; try clear c40b1; try clear hcz24_0; try clear hcz24_1; try clear hcz24_2; try clear hcz24_3; try clear hcz30_0; try clear hcz30_1; try clear hcz30_2; try clear hcz30_3; try clear hcz37_0; try clear hcz37_1; try clear hcz37_2; try clear hcz37_3; try clear hcz5_0; try clear hcz5_1; try clear hcz5_2; try clear hcz5_3; try clear hcz7_0; try clear hcz7_1; try clear hcz7_2; try clear hcz7_3; try clear hfz24_0; try clear hfz24_1; try clear hfz24_2; try clear hfz24_3; try clear hfz30_0; try clear hfz30_1; try clear hfz30_2; try clear hfz30_3; try clear hfz37_0; try clear hfz37_1; try clear hfz37_2
        try clear hfz37_3; try clear hfz5_0; try clear hfz5_1; try clear hfz5_2; try clear hfz5_3; try clear hfz7_0; try clear hfz7_1; try clear hfz7_2; try clear hfz7_3; try clear hx160_0; try clear hx160_1; try clear hx160_2; try clear hx160_3; try clear p160; try clear p2; try clear q160
        obtain ⟨kq, x50_38, rfl, HA, HJ38, BK154, HB⟩ := hcut
        cases kq with
        | zero => exact absurd HA.out (by simp [spec_l16Text.j1])
        | succ kj38 =>
         have H := HA.out
         clear HA
         simp only [spec_l16Text.j1] at H
         by_cases c41 : x50_38 = true
         ·subst c41
          replace H := iT H
          by_cases c42 : 0 < (l0_3.length : Int)
          ·rw [if_pos c42] at H
           have c42b0 : decide (0 < (l0_3.length : Int)) = true := decide_eq_true c42
           have c42b1 : decide (0 < l0_3.length) = true := decide_eq_true (by omega)
           clear c42
           obtain ⟨t163, A43, H⟩ := bA H
           by_cases c44 : 1 + t163.size ≤ 9223372036854775807
           ·rw [if_pos c44] at H
            have c44b0 := eq_true c44
            have c44b1 : decide (1 + t163.size ≤ 9223372036854775807) = true := decide_eq_true c44
            try have c44b2 : (9223372036854775807 < 1 + t163.size) = False := eq_false (Nat.not_lt.2 c44)
            by_cases c45 : ((⟨#[40]⟩ : ByteArray) ++ t163).size + 1 ≤ 9223372036854775807
            ·rw [if_pos c45] at H
             have c45b0 := eq_true c45
             have c45b1 : decide (((⟨#[40]⟩ : ByteArray) ++ t163).size + 1 ≤ 9223372036854775807) = true := decide_eq_true c45
             try have c45b2 : (9223372036854775807 < ((⟨#[40]⟩ : ByteArray) ++ t163).size + 1) = False := eq_false (Nat.not_lt.2 c45)
             try have c45b3 : (9223372036854775807 < 1 + t163.size + 1) = False := eq_false (Nat.not_lt.2 (show 1 + t163.size + 1 ≤ 9223372036854775807 from by have hh := c45; simp only [ByteArray.size_append] at hh; exact hh))
             by_cases c46 : (((⟨#[40]⟩ : ByteArray) ++ t163) ++ (⟨#[32]⟩ : ByteArray)).size + t155.size ≤ 9223372036854775807
             ·rw [if_pos c46] at H
              have c46b0 := eq_true c46
              have c46b1 : decide ((((⟨#[40]⟩ : ByteArray) ++ t163) ++ (⟨#[32]⟩ : ByteArray)).size + t155.size ≤ 9223372036854775807) = true := decide_eq_true c46
              try have c46b2 : (9223372036854775807 < (((⟨#[40]⟩ : ByteArray) ++ t163) ++ (⟨#[32]⟩ : ByteArray)).size + t155.size) = False := eq_false (Nat.not_lt.2 c46)
              try have c46b3 : (9223372036854775807 < 1 + t163.size + 1 + t155.size) = False := eq_false (Nat.not_lt.2 (show 1 + t163.size + 1 + t155.size ≤ 9223372036854775807 from by have hh := c46; simp only [ByteArray.size_append] at hh; exact hh))
              by_cases c47 : ((((⟨#[40]⟩ : ByteArray) ++ t163) ++ (⟨#[32]⟩ : ByteArray)) ++ t155).size + 1 ≤ 9223372036854775807
              ·rw [if_pos c47] at H
               have c47b0 := eq_true c47
               have c47b1 : decide (((((⟨#[40]⟩ : ByteArray) ++ t163) ++ (⟨#[32]⟩ : ByteArray)) ++ t155).size + 1 ≤ 9223372036854775807) = true := decide_eq_true c47
               try have c47b2 : (9223372036854775807 < ((((⟨#[40]⟩ : ByteArray) ++ t163) ++ (⟨#[32]⟩ : ByteArray)) ++ t155).size + 1) = False := eq_false (Nat.not_lt.2 c47)
               try have c47b3 : (9223372036854775807 < 1 + t163.size + 1 + t155.size + 1) = False := eq_false (Nat.not_lt.2 (show 1 + t163.size + 1 + t155.size + 1 ≤ 9223372036854775807 from by have hh := c47; simp only [ByteArray.size_append] at hh; exact hh))
               by_cases c48 : 1 < (l0_3.length : Int)
               ·rw [if_pos c48] at H
                have c48b0 : decide (1 < (l0_3.length : Int)) = true := decide_eq_true c48
                have c48b1 : decide (1 < l0_3.length) = true := decide_eq_true (by omega)
                clear c48
                obtain ⟨t165, A49, H⟩ := bA H
                by_cases c50 : (((((⟨#[40]⟩ : ByteArray) ++ t163) ++ (⟨#[32]⟩ : ByteArray)) ++ t155) ++ (⟨#[32]⟩ : ByteArray)).size + t165.size ≤ 9223372036854775807
                ·rw [if_pos c50] at H
                 have c50b0 := eq_true c50
                 have c50b1 : decide ((((((⟨#[40]⟩ : ByteArray) ++ t163) ++ (⟨#[32]⟩ : ByteArray)) ++ t155) ++ (⟨#[32]⟩ : ByteArray)).size + t165.size ≤ 9223372036854775807) = true := decide_eq_true c50
                 try have c50b2 : (9223372036854775807 < (((((⟨#[40]⟩ : ByteArray) ++ t163) ++ (⟨#[32]⟩ : ByteArray)) ++ t155) ++ (⟨#[32]⟩ : ByteArray)).size + t165.size) = False := eq_false (Nat.not_lt.2 c50)
                 try have c50b3 : (9223372036854775807 < 1 + t163.size + 1 + t155.size + 1 + t165.size) = False := eq_false (Nat.not_lt.2 (show 1 + t163.size + 1 + t155.size + 1 + t165.size ≤ 9223372036854775807 from by have hh := c50; simp only [ByteArray.size_append] at hh; exact hh))
                 by_cases c51 : ((((((⟨#[40]⟩ : ByteArray) ++ t163) ++ (⟨#[32]⟩ : ByteArray)) ++ t155) ++ (⟨#[32]⟩ : ByteArray)) ++ t165).size + 1 ≤ 9223372036854775807
                 ·rw [if_pos c51] at H
                  have c51b0 := eq_true c51
                  have c51b1 : decide (((((((⟨#[40]⟩ : ByteArray) ++ t163) ++ (⟨#[32]⟩ : ByteArray)) ++ t155) ++ (⟨#[32]⟩ : ByteArray)) ++ t165).size + 1 ≤ 9223372036854775807) = true := decide_eq_true c51
                  try have c51b2 : (9223372036854775807 < ((((((⟨#[40]⟩ : ByteArray) ++ t163) ++ (⟨#[32]⟩ : ByteArray)) ++ t155) ++ (⟨#[32]⟩ : ByteArray)) ++ t165).size + 1) = False := eq_false (Nat.not_lt.2 c51)
                  try have c51b3 : (9223372036854775807 < 1 + t163.size + 1 + t155.size + 1 + t165.size + 1) = False := eq_false (Nat.not_lt.2 (show 1 + t163.size + 1 + t155.size + 1 + t165.size + 1 ≤ 9223372036854775807 from by have hh := c51; simp only [ByteArray.size_append] at hh; exact hh))
                  obtain rfl := Option.some.inj H
                  try go_wp2
                  replace BK154 := Aside0.mk (blk_drew BK154.out)
                  replace HB := Aside0.mk (below_drew1 HB.out)
                  have p162 : 0 ≤ (0 : Int) := (by omega)
                  have q162 : 0 < (l0_3.length : Int) := of_decide_eq_true sqs
                  obtain ⟨ad162, A162_3, c162_3, e162, hx162_0, hx162_1, hx162_2, hx162_3, hl162_3, hi162_3⟩ := at_T27 HR0_3.out 0 p162 q162
                  have hw162_3 := hx162_3
                  (try rw [show ((0 : Int)).toNat = 0 from rfl] at hw162_3)
                  (try rw [show 0 * 4 = 0 from rfl] at hw162_3)
                  (try rw [Addr.add_zero'] at hw162_3)
                  have hw162_2 := hx162_2
                  (try rw [show ((0 : Int)).toNat = 0 from rfl] at hw162_2)
                  (try rw [show 0 * 4 = 0 from rfl] at hw162_2)
                  (try rw [Addr.add_zero'] at hw162_2)
                  have hw162_1 := hx162_1
                  (try rw [show ((0 : Int)).toNat = 0 from rfl] at hw162_1)
                  (try rw [show 0 * 4 = 0 from rfl] at hw162_1)
                  (try rw [Addr.add_zero'] at hw162_1)
                  have hw162_0 := hx162_0
                  (try rw [show ((0 : Int)).toNat = 0 from rfl] at hw162_0)
                  (try rw [show 0 * 4 = 0 from rfl] at hw162_0)
                  (try rw [Addr.add_zero'] at hw162_0)
                  cases e162
                  have qi162 : (0 < l0_3.length) = True := eq_true (by omega)
                  (try rw [show ((0 : Int)).toNat = 0 from rfl] at hx162_0)
                  (try rw [show 0 * 4 = 0 from rfl] at hx162_0)
                  (try rw [Addr.add_zero'] at hx162_0)
                  (try rw [show ((0 : Int)).toNat = 0 from rfl] at hx162_1)
                  (try rw [show 0 * 4 = 0 from rfl] at hx162_1)
                  (try rw [Addr.add_zero'] at hx162_1)
                  (try rw [show ((0 : Int)).toNat = 0 from rfl] at hx162_2)
                  (try rw [show 0 * 4 = 0 from rfl] at hx162_2)
                  (try rw [Addr.add_zero'] at hx162_2)
                  (try rw [show ((0 : Int)).toNat = 0 from rfl] at hx162_3)
                  (try rw [show 0 * 4 = 0 from rfl] at hx162_3)
                  (try rw [Addr.add_zero'] at hx162_3)
                  replace hx162_0 := cl HB hx162_0; replace hx162_1 := cl HB hx162_1; replace hx162_2 := cl HB hx162_2; replace hx162_3 := cl HB hx162_3
                  have HR162_3 := Aside0.mk hi162_3
                  have HC162_3 := Aside0.mk hl162_3
                  clear hi162_3 hl162_3
                  replace p162 := eq_true p162
                  replace q162 := eq_true q162
                  have p164 : 0 ≤ (1 : Int) := (by omega)
                  have q164 : 1 < (l0_3.length : Int) := of_decide_eq_true sqs
                  obtain ⟨ad164, A164_3, c164_3, e164, hx164_0, hx164_1, hx164_2, hx164_3, hl164_3, hi164_3⟩ := at_T27 HR0_3.out 1 p164 q164
                  have hw164_3 := hx164_3
                  (try rw [show ((1 : Int)).toNat = 1 from rfl] at hw164_3)
                  (try rw [show 1 * 4 = 4 from rfl] at hw164_3)
                  (try simp only [Nat.reduceMul, Nat.reduceEqDiff, Go.Addr.add, ↓reduceIte] at hw164_3)
                  have hw164_2 := hx164_2
                  (try rw [show ((1 : Int)).toNat = 1 from rfl] at hw164_2)
                  (try rw [show 1 * 4 = 4 from rfl] at hw164_2)
                  (try simp only [Nat.reduceMul, Nat.reduceEqDiff, Go.Addr.add, ↓reduceIte] at hw164_2)
                  have hw164_1 := hx164_1
                  (try rw [show ((1 : Int)).toNat = 1 from rfl] at hw164_1)
                  (try rw [show 1 * 4 = 4 from rfl] at hw164_1)
                  (try simp only [Nat.reduceMul, Nat.reduceEqDiff, Go.Addr.add, ↓reduceIte] at hw164_1)
                  have hw164_0 := hx164_0
                  (try rw [show ((1 : Int)).toNat = 1 from rfl] at hw164_0)
                  (try rw [show 1 * 4 = 4 from rfl] at hw164_0)
                  (try simp only [Nat.reduceMul, Nat.reduceEqDiff, Go.Addr.add, ↓reduceIte] at hw164_0)
                  obtain rfl : ad162 = ad164 := (by injection e164)
                  (try simp only [show (1 : Int).toNat = 1 from rfl, Nat.reduceMul, Nat.reduceEqDiff, Go.Addr.add, ↓reduceIte] at hx164_0)
                  (try simp only [show (1 : Int).toNat = 1 from rfl, Nat.reduceMul, Nat.reduceEqDiff, Go.Addr.add, ↓reduceIte] at hx164_1)
                  (try simp only [show (1 : Int).toNat = 1 from rfl, Nat.reduceMul, Nat.reduceEqDiff, Go.Addr.add, ↓reduceIte] at hx164_2)
                  (try simp only [show (1 : Int).toNat = 1 from rfl, Nat.reduceMul, Nat.reduceEqDiff, Go.Addr.add, ↓reduceIte] at hx164_3)
                  have qi164 : (1 < l0_3.length) = True := eq_true (by omega)
                  (try rw [show ((1 : Int)).toNat = 1 from rfl] at hx164_0)
                  (try rw [show 1 * 4 = 4 from rfl] at hx164_0)
                  (try rw [show ((1 : Int)).toNat = 1 from rfl] at hx164_1)
                  (try rw [show 1 * 4 = 4 from rfl] at hx164_1)
                  (try rw [show ((1 : Int)).toNat = 1 from rfl] at hx164_2)
                  (try rw [show 1 * 4 = 4 from rfl] at hx164_2)
                  (try rw [show ((1 : Int)).toNat = 1 from rfl] at hx164_3)
                  (try rw [show 1 * 4 = 4 from rfl] at hx164_3)
                  replace hx164_0 := cl HB hx164_0; replace hx164_1 := cl HB hx164_1; replace hx164_2 := cl HB hx164_2; replace hx164_3 := cl HB hx164_3
                  have HR164_3 := Aside0.mk hi164_3
                  have HC164_3 := Aside0.mk hl164_3
                  clear hi164_3 hl164_3
                  replace p164 := eq_true p164
                  replace q164 := eq_true q164
                  refine start_ (n := 18) (S := fun w' => w'.cell? ⟨gb154, 0, none⟩ = some (.int .i64 a0_0) ∧ w'.cell? ⟨gb154, 1, none⟩ = some (.int .i64 a0_1) ∧ w'.cell? ⟨gb154, 2, none⟩ = some (.int .i64 a0_2) ∧ w'.cell? ⟨gb154, 3, none⟩ = some (.slice (some ad162) l0_3.length c0_3) ∧ w'.cell? ad162 = some (.int .i64 ((rd_T27 l0_3 0).f0)) ∧ w'.cell? ⟨ad162.block, ad162.off + 1, none⟩ = some (.int .i64 ((rd_T27 l0_3 0).f1)) ∧ w'.cell? ⟨ad162.block, ad162.off + 2, none⟩ = some (.int .i64 ((rd_T27 l0_3 0).f2)) ∧ w'.cell? ⟨ad162.block, ad162.off + 3, none⟩ = some (.slice A162_3 ((rd_T27 l0_3 0).f3).length c162_3) ∧ w'.cell? ⟨ad162.block, ad162.off + 4, none⟩ = some (.int .i64 ((rd_T27 l0_3 1).f0)) ∧ w'.cell? ⟨ad162.block, ad162.off + 4 + 1, none⟩ = some (.int .i64 ((rd_T27 l0_3 1).f1)) ∧ w'.cell? ⟨ad162.block, ad162.off + 4 + 2, none⟩ = some (.int .i64 ((rd_T27 l0_3 1).f2)) ∧ w'.cell? ⟨ad162.block, ad162.off + 4 + 3, none⟩ = some (.slice A164_3 ((rd_T27 l0_3 1).f3).length c164_3)) (ds := []) #[false, false, false, false, false, false, false, false, false, false, false, false, false, false, false, false, false, false] sqk rfl rfl (sa4 BK154.out ⟨(cl HB hw162_0), (cl HB hw162_1), (cl HB hw162_2), (cl HB hw162_3), (cl HB hw164_0), (cl HB hw164_1), (cl HB hw164_2), (cl HB hw164_3)⟩) (fun hHeld => ?_); refine with_tabW spec_l16Text.tab15 spec_l16Text.bits15 (fun HT_ HW_ => ?_)
                  generalize wc.drew = w52 at BK154 HB HR162_3 HR164_3 hx162_0 hx162_1 hx162_2 hx162_3 hx164_0 hx164_1 hx164_2 hx164_3 hHeld ⊢
                  refine pu 0 53 ?_; refine pu 7 60 ?_; refine pu 10 63 ?_; refine ta 1 54 ?_; refine pu 2 55 ?_; refine ta 3 56 ?_; refine ta 11 64 ?_; refine pu 12 65 ?_; refine ta 13 66 ?_
                  refine on 4 (some 57) (fun K hK => ?_)
                  refine goes_ Tryd.func26 sqk rfl #[.agg #[.int .i64 ((rd_T27 l0_3 0).f0), .int .i64 ((rd_T27 l0_3 0).f1), .int .i64 ((rd_T27 l0_3 0).f2), .slice A162_3 ((rd_T27 l0_3 0).f3).length c162_3]] (by rfl) rfl rfl sqm ?_
                  with_reducible refine (ih kj38 (by have := HJ2.out; have := HJ38.out; omega) ((rd_T27 l0_3 0).f0) ((rd_T27 l0_3 0).f1) ((rd_T27 l0_3 0).f2) _ _ ((rd_T27 l0_3 0).f3) t163 _ ?side1 ?side2 A43.out).mono ?_
                  (case side1 => repeat (first | exact (Kd.C_below HR162_3.out HB.out) | (with_reducible refine Kd.C_alloc ?_ _) | (with_reducible refine Kd.C_drewN ?_ _) | (with_reducible refine Kd.C_drew ?_)))
                  (case side2 => exact HC162_3.out)
                  rintro e w53 ⟨rfl, hb⟩
                  refine ⟨_, rfl, ?_⟩
                  replace BK154 := Aside0.mk (blk_below (bo BK154) hb)
                  replace HB := Aside0.mk (below_step sqh hb)
                  (try clear hb)
                  (try clear hb2)
                  (try clear hk)
                  (try clear hi)
                  refine hK.out _ _ (sa4 BK154.out ⟨(cl HB hw162_0), (cl HB hw162_1), (cl HB hw162_2), (cl HB hw162_3), (cl HB hw164_0), (cl HB hw164_1), (cl HB hw164_2), (cl HB hw164_3)⟩) (fun hHeld => ?_)
                  clear hK K; refine no 57 ?_; refine pu 5 58 ?_; refine pu 6 59 ?_; refine pu 8 61 ?_; refine pu 9 62 ?_
                  refine on 14 (some 67) (fun K hK => ?_)
                  refine goes_ Tryd.func26 sqk rfl #[.agg #[.int .i64 ((rd_T27 l0_3 1).f0), .int .i64 ((rd_T27 l0_3 1).f1), .int .i64 ((rd_T27 l0_3 1).f2), .slice A164_3 ((rd_T27 l0_3 1).f3).length c164_3]] (by rfl) rfl rfl sqm ?_
                  with_reducible refine (ih kj38 (by have := HJ2.out; have := HJ38.out; omega) ((rd_T27 l0_3 1).f0) ((rd_T27 l0_3 1).f1) ((rd_T27 l0_3 1).f2) _ _ ((rd_T27 l0_3 1).f3) t165 _ ?side1 ?side2 A49.out).mono ?_
                  (case side1 => repeat (first | exact (Kd.C_below HR164_3.out HB.out) | (with_reducible refine Kd.C_alloc ?_ _) | (with_reducible refine Kd.C_drewN ?_ _) | (with_reducible refine Kd.C_drew ?_)))
                  (case side2 => exact HC164_3.out)
                  rintro e w54 ⟨rfl, hb⟩
                  refine ⟨_, rfl, ?_⟩
                  replace BK154 := Aside0.mk (blk_below (bo BK154) hb)
                  replace HB := Aside0.mk (below_step sqh hb)
                  (try clear hb)
                  (try clear hb2)
                  (try clear hk)
                  (try clear hi)
                  refine hK.out _ _ (sa4 BK154.out ⟨(cl HB hw162_0), (cl HB hw162_1), (cl HB hw162_2), (cl HB hw162_3), (cl HB hw164_0), (cl HB hw164_1), (cl HB hw164_2), (cl HB hw164_3)⟩) (fun hHeld => ?_)
                  clear hK K; refine no 67 ?_; refine pu 15 68 ?_; refine pu 16 69 ?_; refine pu 17 2 ?_
                  refine dn ?_
                  try go_wp2
                  go_ret
                  exact ⟨sqe, sqh⟩
                 ·rw [if_neg c51] at H
                  exact absurd H (by simp)
                ·rw [if_neg c50] at H
                 exact absurd H (by simp)
               ·rw [if_neg c48] at H
                exact absurd H (by simp)
              ·rw [if_neg c47] at H
               exact absurd H (by simp)
             ·rw [if_neg c46] at H
              exact absurd H (by simp)
            ·rw [if_neg c45] at H
             exact absurd H (by simp)
           ·rw [if_neg c44] at H
            exact absurd H (by simp)
          ·rw [if_neg c42] at H
           exact absurd H (by simp)
         ·replace c41 := Bool.eq_false_iff.mpr c41
          subst c41
          replace H := iF H
          obtain rfl := Option.some.inj H
          go_wp2
          go_ret
          exact ⟨sqe, sqh⟩

end Go.Proofs.YtilcmgdjfhhcdaaDoor.XFnTexts
