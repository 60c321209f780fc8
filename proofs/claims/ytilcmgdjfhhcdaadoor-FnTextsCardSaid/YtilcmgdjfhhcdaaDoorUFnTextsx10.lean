/- Written by this session's own program (wip/xprint, which runs over the kit's print): what the functions that the law reaches come to, each proved; and the law's row. Conditions: none. -/
import Derived.Test.YtilcmgdjfhhcdaaDoorUFnTextsSq
import Derived.Test.YtilcmgdjfhhcdaaDoorUFnTextsx0
import Derived.Test.YtilcmgdjfhhcdaaDoorUFnTextsx7
import Derived.Test.YtilcmgdjfhhcdaaDoorUFnTextsx9
namespace Go.Proofs.YtilcmgdjfhhcdaaDoor.XFnTexts
open Go.RowKit Go.Proofs.YtilcmgdjfhhcdaaDoorW.PrintWords Go.Proofs.YtilcmgdjfhhcdaaDoorW.PrintLast Go.Proofs.YtilcmgdjfhhcdaaDoorW.PrintMore Go.Proofs.YtilcmgdjfhhcdaaDoorSq
attribute [local go_sem] max2_int min2_int max_two min_two max_three min_three max_four min_four   -- for this text's walks alone
set_option linter.unusedVariables false
set_option linter.unusedSimpArgs false

/-! ### impl_condReader_number: function 35 -/
def impl_condReader_number.l0 : Nat → Int → ByteArray → Bool → Option (Int × ByteArray × Bool)
 | 0, _, _, _ => none
 | k + 1, x3, x1000, x1001 => if x3 < (x1000.size : Int) then (if 0 ≤ x3 then (if (bt x1000 x3) ≥ 48 then (if (bt x1000 x3) ≤ 57 then (impl_condReader_number.l0 k (wrap64 (x3 + 1)) x1000 x1001) else (if x3 ≤ (x1000.size : Int) then ((impl_ParseInt.f (x1000.extract 0 (x3 : Int).toNat)).bind fun bt471 => (if x1001 = true then (some (bt471.1, x1000.extract (x3 : Int).toNat x1000.size, true)) else (some (bt471.1, x1000.extract (x3 : Int).toNat x1000.size, !bt471.2)))) else (none))) else (if x3 ≤ (x1000.size : Int) then ((impl_ParseInt.f (x1000.extract 0 (x3 : Int).toNat)).bind fun bt473 => (if x1001 = true then (some (bt473.1, x1000.extract (x3 : Int).toNat x1000.size, true)) else (some (bt473.1, x1000.extract (x3 : Int).toNat x1000.size, !bt473.2)))) else (none))) else (none)) else (if 0 ≤ x3 then (if x3 ≤ (x1000.size : Int) then ((impl_ParseInt.f (x1000.extract 0 (x3 : Int).toNat)).bind fun bt475 => (if x1001 = true then (some (bt475.1, x1000.extract (x3 : Int).toNat x1000.size, true)) else (some (bt475.1, x1000.extract (x3 : Int).toNat x1000.size, !bt475.2)))) else (none)) else (none))
def impl_condReader_number.f (k : Nat) (s0_0 : ByteArray) (s0_1 : Bool) : Option (Int × ByteArray × Bool) := (impl_condReader_need.f s0_0 s0_1 (⟨#[32]⟩ : ByteArray)).bind fun bt469 => (impl_condReader_number.l0 k 0 bt469.1 bt469.2)
set_option maxHeartbeats 8000000 in
set_option maxRecDepth 100000 in
theorem impl_condReader_number.calls (k : Nat) (g : Nat) (s0_0 : ByteArray) (s0_1 : Bool) (r1 : Int) (r2 : ByteArray) (r3 : Bool) (w0 w : World) (hI : IsS42 w0 w g s0_0 s0_1) (hB : Below w0.heap.size w0 w) (h : impl_condReader_number.f k s0_0 s0_1 = some (r1, r2, r3)) (hT : Tabs w0) :
  Calls Tryd.prog 35 #[.pointer (some ⟨g, 0, none⟩)] w fun e w' => e = .returned (.int .i64 r1) ∧ IsS42 w0 w' g r2 r3 ∧ Below w0.heap.size w0 w' ∧ KeepBut w w' g none := by
 have HI0 := Aside0.mk hI
 have HK := Aside0.mk (KeepBut.refl w g none)
 have HL := Aside0.mk hB.size
 clear hI
 have HW0 := Aside0.mk hB.size
 have HB := Aside0.mk hB
 clear hB
 have HTab := Aside0.mk hT
 clear hT
 have H : ((impl_condReader_need.f s0_0 s0_1 (⟨#[32]⟩ : ByteArray)).bind fun bt469 => (impl_condReader_number.l0 k 0 bt469.1 bt469.2)) = some (r1, r2, r3) := h
 clear h
 obtain ⟨⟨t469, t470⟩, A2, H⟩ := bA H
 dsimp only at H
 have H' := Aside0.mk H
 clear H
 go_enter Tryd.func35, Tryd.ntmps35
 go_wp2_with (first | ((with_reducible refine gate_callee (f := 34) rfl ?_); refine goesL_ (some 7) rfl rfl Tryd.func34 sqk rfl #[.pointer (some ⟨g, 0, none⟩), .string (⟨#[32]⟩ : ByteArray)] rfl sqm ?_; (with_reducible refine (impl_condReader_need.calls g s0_0 s0_1 (⟨#[32]⟩ : ByteArray) t469 t470 w0 _ ?side1 ?side2 A2.out).mono ?_); (case side1 => exact sqi); (case side2 => exact sqj); rintro e w3 ⟨rfl, hi, hb, hk⟩; refine ⟨_, rfl, ?_⟩; replace HK := Aside0.mk (KeepBut.trans sqp hk (.inl rfl)); replace HB := Aside0.mk (hb); replace HI0 := Aside0.mk (hi); (try clear hb); (try clear hk); (try clear hi)))
 go_loopg [3] k (fun kq v3 w' => ∃ (x3_1 : Int), v3 = .int .i64 x3_1 ∧ Aside0 (impl_condReader_number.l0 kq x3_1 t469 t470 = some (r1, r2, r3)) ∧ Aside0 (kq ≤ k) ∧ Aside0 (IsS42 w0 w' g t469 t470) ∧ Aside0 (KeepBut w w' g none) ∧ Aside0 (Below w0.heap.size w0 w'))
 case atStart => exact ⟨(0), sqr, H', ⟨Nat.le_refl _⟩, ⟨sqi⟩, ⟨sqp⟩, ⟨sqj⟩⟩
 case round =>
  clear H'; try clear p2; try clear c3
  obtain ⟨x3_1, rfl, HA, HK1, HI0, HK, HB⟩ := hrel
  cases gk with
  | zero => exact absurd HA.out (by simp [impl_condReader_number.l0])
  | succ k1 =>
   have H := HA.out
   clear HA
   simp only [impl_condReader_number.l0] at H
   by_cases c4 : x3_1 < (t469.size : Int)
   ·rw [if_pos c4] at H
    have c4b0 : decide (x3_1 < (t469.size : Int)) = true := decide_eq_true c4
    clear c4
    by_cases c5 : 0 ≤ x3_1
    ·rw [if_pos c5] at H
     have c5b0 : decide (0 ≤ x3_1) = true := decide_eq_true c5
     clear c5
     by_cases c7 : (bt t469 x3_1) ≥ 48
     ·rw [if_pos c7] at H
      have c7b0 : decide (48 ≤ (bt t469 x3_1)) = true := decide_eq_true c7
      clear c7
      by_cases c9 : (bt t469 x3_1) ≤ 57
      ·rw [if_pos c9] at H
       have c9b0 : decide ((bt t469 x3_1) ≤ 57) = true := decide_eq_true c9
       clear c9
       have H' := Aside0.mk H
       clear H
       obtain ⟨HGz10, hgz10⟩ := HI0.out
       have hcz10_0 := cellS42_0 HGz10
       have hcz10_1 := cellS42_1 HGz10
       have hfz10_0 := blk_frozen HGz10 0
       have hfz10_1 := blk_frozen HGz10 1
       clear HGz10 hgz10
       have p6 : 0 ≤ (x3_1 : Int) := of_decide_eq_true sqs
       have q6 : x3_1 < (t469.size : Int) := of_decide_eq_true sqs
       have hx6 := bt_at t469 x3_1
       replace p6 := eq_true p6
       replace q6 := eq_true q6
       have p8 : 0 ≤ (x3_1 : Int) := of_decide_eq_true sqs
       have q8 : x3_1 < (t469.size : Int) := of_decide_eq_true sqs
       have hx8 := bt_at t469 x3_1
       replace p8 := eq_true p8
       replace q8 := eq_true q8
       go_wp2
       go_roundg k1
       case measure => have := HK1.out; omega
       case rel => exact ⟨(wrap64 (x3_1 + 1)), sqr, H', ⟨by have := HK1.out; omega⟩, ⟨sqi⟩, ⟨sqp⟩, ⟨sqj⟩⟩
      ·rw [if_neg c9] at H
       have c9b0 : decide ((bt t469 x3_1) ≤ 57) = false := decide_eq_false c9
       clear c9; have c11b0 := eq_true (of_decide_eq_true sqs : 0 ≤ x3_1)
       by_cases c12 : x3_1 ≤ (t469.size : Int)
       ·rw [if_pos c12] at H
        have c12b0 := eq_true c12
        have c12b1 : decide (x3_1 ≤ (t469.size : Int)) = true := decide_eq_true c12
        clear c12
        obtain ⟨⟨t471, t472⟩, A13, H⟩ := bA H
        dsimp only at H
        have c14b0 := eq_true (of_decide_eq_true sqs : 0 ≤ x3_1)
        have c15b0 := eq_true (of_decide_eq_true sqs : x3_1 ≤ (t469.size : Int))
        by_cases c16 : t470 = true
        ·subst c16
         replace H := iT H
         simp only [Option.some.injEq, Prod.mk.injEq] at H
         obtain ⟨rfl, rfl, rfl⟩ := H
         obtain ⟨HGz17, hgz17⟩ := HI0.out
         have hcz17_0 := cellS42_0 HGz17
         have hcz17_1 := cellS42_1 HGz17
         have hfz17_0 := blk_frozen HGz17 0
         have hfz17_1 := blk_frozen HGz17 1
         clear HGz17 hgz17
         have p6 : 0 ≤ (x3_1 : Int) := of_decide_eq_true sqs
         have q6 : x3_1 < (t469.size : Int) := of_decide_eq_true sqs
         have hx6 := bt_at t469 x3_1
         replace p6 := eq_true p6
         replace q6 := eq_true q6
         have p8 : 0 ≤ (x3_1 : Int) := of_decide_eq_true sqs
         have q8 : x3_1 < (t469.size : Int) := of_decide_eq_true sqs
         have hx8 := bt_at t469 x3_1
         replace p8 := eq_true p8
         replace q8 := eq_true q8
         go_wp2_with (first | ((with_reducible refine gate_callee (f := 51) rfl ?_); refine goesL_ (some 42) rfl rfl Tryd.func51 sqk rfl #[.string (t469.extract 0 (x3_1 : Int).toNat)] rfl sqm ?_; (with_reducible refine (impl_ParseInt.calls (t469.extract 0 (x3_1 : Int).toNat) t471 t472 _ A13.out (HTab.out.below sqh)).mono ?_); rintro e w18 ⟨rfl, hb⟩; refine ⟨_, rfl, ?_⟩; replace HK := Aside0.mk (KeepBut.trans sqp (KeepBut.of_below hb g none) (.inl rfl)); replace HB := Aside0.mk (below_step sqj hb); replace HI0 := Aside0.mk (IsS42.below sqi hb); (try clear hb); obtain ⟨HGz19, hgz19⟩ := HI0.out; have hcz19_0 := cellS42_0 HGz19; have hcz19_1 := cellS42_1 HGz19; have hfz19_0 := blk_frozen HGz19 0; have hfz19_1 := blk_frozen HGz19 1; clear HGz19 hgz19))
         refine start_ (n := 22) (S := fun w' => w'.cell? ⟨g, 0, none⟩ = some (.string t469) ∧ w'.cell? ⟨g, 1, none⟩ = some (.bool true)) (ds := [18, 21]) #[false, false, false, false, false, false, false, false, false, false, false, false, false, false, false, false, false, false, false, false, false, false] sqk rfl rfl ⟨hcz19_0, hcz19_1⟩ (fun hHeld => ?_)
         refine pu 0 45 ?_; refine pu 1 46 ?_; refine pu 2 47 ?_; refine pu 3 48 ?_; refine pu 4 49 ?_; refine ta 5 50 ?_; refine pu 6 51 ?_; refine pu 7 52 ?_; refine pu 8 53 ?_; refine pu 9 54 ?_; refine pu 10 55 ?_; refine ta 11 56 ?_; refine pu 12 57 ?_
         refine pure_ (i := 13) (N := some 58) (v := undef) (a' := _) #[true, true, true, true, true, true, true, true, true, true, true, true, true, true, false, false, false, false, false, false, false, false] rfl rfl sqk (fun _ _ _ h => h) (Or.inr ⟨by rfl, rfl⟩) rfl ?_
         refine no 58 ?_
         refine pure_ (i := 14) (N := some 59) (v := undef) (a' := _) #[true, true, true, true, true, true, true, true, true, true, true, true, true, true, true, false, false, false, false, false, false, false] rfl rfl sqk (fun _ _ _ h => h) (Or.inr ⟨by rfl, rfl⟩) rfl ?_
         refine no 59 ?_; refine pu 15 60 ?_; refine pu 16 61 ?_; refine pu 17 62 ?_
         refine last_ (i := 18) (N := none) #[true, true, true, true, true, true, true, true, true, true, true, true, true, true, true, true, true, true, true, false, false, false] rfl rfl sqk (by decide) (fun K hK => ?_)
         refine skip_ (w1 := (w18.drew.setCell ⟨g, 0, none⟩ (.string (t469.extract (x3_1 : Int).toNat t469.size)))) (by rfl) rfl ?run ?_
         (case run => first | (go_simp; done) | (go_simp; rfl))
         refine hK.out _ _ ?_
         clear hK K; refine pu 19 63 ?_; refine pu 20 64 ?_
         refine last_ (i := 21) (N := none) #[true, true, true, true, true, true, true, true, true, true, true, true, true, true, true, true, true, true, true, true, true, true] rfl rfl sqk (by decide) (fun K hK => ?_)
         refine skip_ (w1 := ((w18.drew.setCell ⟨g, 0, none⟩ (.string (t469.extract (x3_1 : Int).toNat t469.size))).setCell ⟨g, 1, none⟩ (.bool true))) (by rfl) rfl ?run ?_
         (case run => first | (go_simp; done) | (go_simp; rfl))
         refine hK.out _ _ ?_
         clear hK K
         refine dn ?_
         try go_wp2
         go_ret
         exact ⟨sqe, sqi, sqj, sqp⟩
        ·replace c16 := Bool.eq_false_iff.mpr c16
         subst c16
         replace H := iF H
         simp only [Option.some.injEq, Prod.mk.injEq] at H
         obtain ⟨rfl, rfl, rfl⟩ := H
         obtain ⟨HGz20, hgz20⟩ := HI0.out
         have hcz20_0 := cellS42_0 HGz20
         have hcz20_1 := cellS42_1 HGz20
         have hfz20_0 := blk_frozen HGz20 0
         have hfz20_1 := blk_frozen HGz20 1
         clear HGz20 hgz20
         have p6 : 0 ≤ (x3_1 : Int) := of_decide_eq_true sqs
         have q6 : x3_1 < (t469.size : Int) := of_decide_eq_true sqs
         have hx6 := bt_at t469 x3_1
         replace p6 := eq_true p6
         replace q6 := eq_true q6
         have p8 : 0 ≤ (x3_1 : Int) := of_decide_eq_true sqs
         have q8 : x3_1 < (t469.size : Int) := of_decide_eq_true sqs
         have hx8 := bt_at t469 x3_1
         replace p8 := eq_true p8
         replace q8 := eq_true q8
         go_wp2_with (first | ((with_reducible refine gate_callee (f := 51) rfl ?_); refine goesL_ (some 42) rfl rfl Tryd.func51 sqk rfl #[.string (t469.extract 0 (x3_1 : Int).toNat)] rfl sqm ?_; (with_reducible refine (impl_ParseInt.calls (t469.extract 0 (x3_1 : Int).toNat) t471 t472 _ A13.out (HTab.out.below sqh)).mono ?_); rintro e w21 ⟨rfl, hb⟩; refine ⟨_, rfl, ?_⟩; replace HK := Aside0.mk (KeepBut.trans sqp (KeepBut.of_below hb g none) (.inl rfl)); replace HB := Aside0.mk (below_step sqj hb); replace HI0 := Aside0.mk (IsS42.below sqi hb); (try clear hb); obtain ⟨HGz22, hgz22⟩ := HI0.out; have hcz22_0 := cellS42_0 HGz22; have hcz22_1 := cellS42_1 HGz22; have hfz22_0 := blk_frozen HGz22 0; have hfz22_1 := blk_frozen HGz22 1; clear HGz22 hgz22))
         refine start_ (n := 22) (S := fun w' => w'.cell? ⟨g, 0, none⟩ = some (.string t469) ∧ w'.cell? ⟨g, 1, none⟩ = some (.bool false)) (ds := [18, 21]) #[false, false, false, false, false, false, false, false, false, false, false, false, false, false, false, false, false, false, false, false, false, false] sqk rfl rfl ⟨hcz22_0, hcz22_1⟩ (fun hHeld => ?_)
         refine pu 0 45 ?_; refine pu 1 46 ?_; refine pu 2 47 ?_; refine pu 3 48 ?_; refine pu 4 49 ?_; refine ta 5 50 ?_; refine pu 6 51 ?_; refine pu 7 52 ?_; refine pu 8 53 ?_; refine pu 9 54 ?_; refine pu 10 55 ?_; refine ta 11 56 ?_; refine pu 12 57 ?_; refine pu 13 58 ?_; refine pu 14 59 ?_; refine pu 15 60 ?_; refine pu 16 61 ?_; refine pu 17 62 ?_
         refine last_ (i := 18) (N := none) #[true, true, true, true, true, true, true, true, true, true, true, true, true, true, true, true, true, true, true, false, false, false] rfl rfl sqk (by decide) (fun K hK => ?_)
         refine skip_ (w1 := (w21.drew.setCell ⟨g, 0, none⟩ (.string (t469.extract (x3_1 : Int).toNat t469.size)))) (by rfl) rfl ?run ?_
         (case run => first | (go_simp; done) | (go_simp; rfl))
         refine hK.out _ _ ?_
         clear hK K; refine pu 19 63 ?_; refine pu 20 64 ?_
         refine last_ (i := 21) (N := none) #[true, true, true, true, true, true, true, true, true, true, true, true, true, true, true, true, true, true, true, true, true, true] rfl rfl sqk (by decide) (fun K hK => ?_)
         refine skip_ (w1 := ((w21.drew.setCell ⟨g, 0, none⟩ (.string (t469.extract (x3_1 : Int).toNat t469.size))).setCell ⟨g, 1, none⟩ (.bool (!t472)))) (by rfl) rfl ?run ?_
         (case run => first | (go_simp; done) | (go_simp; rfl))
         refine hK.out _ _ ?_
         clear hK K
         refine dn ?_
         try go_wp2
         go_ret
         exact ⟨sqe, sqi, sqj, sqp⟩
       ·rw [if_neg c12] at H
        exact absurd H (by simp)
     ·rw [if_neg c7] at H
      have c7b0 : decide (48 ≤ (bt t469 x3_1)) = false := decide_eq_false c7
      clear c7; have c23b0 := eq_true (of_decide_eq_true sqs : 0 ≤ x3_1)
      by_cases c24 : x3_1 ≤ (t469.size : Int)
      ·rw [if_pos c24] at H
       have c24b0 := eq_true c24
       have c24b1 : decide (x3_1 ≤ (t469.size : Int)) = true := decide_eq_true c24
       clear c24
       obtain ⟨⟨t473, t474⟩, A25, H⟩ := bA H
       dsimp only at H
       have c26b0 := eq_true (of_decide_eq_true sqs : 0 ≤ x3_1)
       have c27b0 := eq_true (of_decide_eq_true sqs : x3_1 ≤ (t469.size : Int))
       by_cases c28 : t470 = true
       ·subst c28
        replace H := iT H
        simp only [Option.some.injEq, Prod.mk.injEq] at H
        obtain ⟨rfl, rfl, rfl⟩ := H
        obtain ⟨HGz29, hgz29⟩ := HI0.out
        have hcz29_0 := cellS42_0 HGz29
        have hcz29_1 := cellS42_1 HGz29
        have hfz29_0 := blk_frozen HGz29 0
        have hfz29_1 := blk_frozen HGz29 1
        clear HGz29 hgz29
        have p6 : 0 ≤ (x3_1 : Int) := of_decide_eq_true sqs
        have q6 : x3_1 < (t469.size : Int) := of_decide_eq_true sqs
        have hx6 := bt_at t469 x3_1
        replace p6 := eq_true p6
        replace q6 := eq_true q6
        go_wp2_with (first | ((with_reducible refine gate_callee (f := 51) rfl ?_); refine goesL_ (some 42) rfl rfl Tryd.func51 sqk rfl #[.string (t469.extract 0 (x3_1 : Int).toNat)] rfl sqm ?_; (with_reducible refine (impl_ParseInt.calls (t469.extract 0 (x3_1 : Int).toNat) t473 t474 _ A25.out (HTab.out.below sqh)).mono ?_); rintro e w30 ⟨rfl, hb⟩; refine ⟨_, rfl, ?_⟩; replace HK := Aside0.mk (KeepBut.trans sqp (KeepBut.of_below hb g none) (.inl rfl)); replace HB := Aside0.mk (below_step sqj hb); replace HI0 := Aside0.mk (IsS42.below sqi hb); (try clear hb); obtain ⟨HGz31, hgz31⟩ := HI0.out; have hcz31_0 := cellS42_0 HGz31; have hcz31_1 := cellS42_1 HGz31; have hfz31_0 := blk_frozen HGz31 0; have hfz31_1 := blk_frozen HGz31 1; clear HGz31 hgz31))
        refine start_ (n := 22) (S := fun w' => w'.cell? ⟨g, 0, none⟩ = some (.string t469) ∧ w'.cell? ⟨g, 1, none⟩ = some (.bool true)) (ds := [18, 21]) #[false, false, false, false, false, false, false, false, false, false, false, false, false, false, false, false, false, false, false, false, false, false] sqk rfl rfl ⟨hcz31_0, hcz31_1⟩ (fun hHeld => ?_)
        refine pu 0 45 ?_; refine pu 1 46 ?_; refine pu 2 47 ?_; refine pu 3 48 ?_; refine pu 4 49 ?_; refine ta 5 50 ?_; refine pu 6 51 ?_; refine pu 7 52 ?_; refine pu 8 53 ?_; refine pu 9 54 ?_; refine pu 10 55 ?_; refine ta 11 56 ?_; refine pu 12 57 ?_
        refine pure_ (i := 13) (N := some 58) (v := undef) (a' := _) #[true, true, true, true, true, true, true, true, true, true, true, true, true, true, false, false, false, false, false, false, false, false] rfl rfl sqk (fun _ _ _ h => h) (Or.inr ⟨by rfl, rfl⟩) rfl ?_
        refine no 58 ?_
        refine pure_ (i := 14) (N := some 59) (v := undef) (a' := _) #[true, true, true, true, true, true, true, true, true, true, true, true, true, true, true, false, false, false, false, false, false, false] rfl rfl sqk (fun _ _ _ h => h) (Or.inr ⟨by rfl, rfl⟩) rfl ?_
        refine no 59 ?_; refine pu 15 60 ?_; refine pu 16 61 ?_; refine pu 17 62 ?_
        refine last_ (i := 18) (N := none) #[true, true, true, true, true, true, true, true, true, true, true, true, true, true, true, true, true, true, true, false, false, false] rfl rfl sqk (by decide) (fun K hK => ?_)
        refine skip_ (w1 := (w30.drew.setCell ⟨g, 0, none⟩ (.string (t469.extract (x3_1 : Int).toNat t469.size)))) (by rfl) rfl ?run ?_
        (case run => first | (go_simp; done) | (go_simp; rfl))
        refine hK.out _ _ ?_
        clear hK K; refine pu 19 63 ?_; refine pu 20 64 ?_
        refine last_ (i := 21) (N := none) #[true, true, true, true, true, true, true, true, true, true, true, true, true, true, true, true, true, true, true, true, true, true] rfl rfl sqk (by decide) (fun K hK => ?_)
        refine skip_ (w1 := ((w30.drew.setCell ⟨g, 0, none⟩ (.string (t469.extract (x3_1 : Int).toNat t469.size))).setCell ⟨g, 1, none⟩ (.bool true))) (by rfl) rfl ?run ?_
        (case run => first | (go_simp; done) | (go_simp; rfl))
        refine hK.out _ _ ?_
        clear hK K
        refine dn ?_
        try go_wp2
        go_ret
        exact ⟨sqe, sqi, sqj, sqp⟩
       ·replace c28 := Bool.eq_false_iff.mpr c28
        subst c28
        replace H := iF H
        simp only [Option.some.injEq, Prod.mk.injEq] at H
        obtain ⟨rfl, rfl, rfl⟩ := H
        obtain ⟨HGz32, hgz32⟩ := HI0.out
        have hcz32_0 := cellS42_0 HGz32
        have hcz32_1 := cellS42_1 HGz32
        have hfz32_0 := blk_frozen HGz32 0
        have hfz32_1 := blk_frozen HGz32 1
        clear HGz32 hgz32
        have p6 : 0 ≤ (x3_1 : Int) := of_decide_eq_true sqs
        have q6 : x3_1 < (t469.size : Int) := of_decide_eq_true sqs
        have hx6 := bt_at t469 x3_1
        replace p6 := eq_true p6
        replace q6 := eq_true q6
        go_wp2_with (first | ((with_reducible refine gate_callee (f := 51) rfl ?_); refine goesL_ (some 42) rfl rfl Tryd.func51 sqk rfl #[.string (t469.extract 0 (x3_1 : Int).toNat)] rfl sqm ?_; (with_reducible refine (impl_ParseInt.calls (t469.extract 0 (x3_1 : Int).toNat) t473 t474 _ A25.out (HTab.out.below sqh)).mono ?_); rintro e w33 ⟨rfl, hb⟩; refine ⟨_, rfl, ?_⟩; replace HK := Aside0.mk (KeepBut.trans sqp (KeepBut.of_below hb g none) (.inl rfl)); replace HB := Aside0.mk (below_step sqj hb); replace HI0 := Aside0.mk (IsS42.below sqi hb); (try clear hb); obtain ⟨HGz34, hgz34⟩ := HI0.out; have hcz34_0 := cellS42_0 HGz34; have hcz34_1 := cellS42_1 HGz34; have hfz34_0 := blk_frozen HGz34 0; have hfz34_1 := blk_frozen HGz34 1; clear HGz34 hgz34))
        refine start_ (n := 22) (S := fun w' => w'.cell? ⟨g, 0, none⟩ = some (.string t469) ∧ w'.cell? ⟨g, 1, none⟩ = some (.bool false)) (ds := [18, 21]) #[false, false, false, false, false, false, false, false, false, false, false, false, false, false, false, false, false, false, false, false, false, false] sqk rfl rfl ⟨hcz34_0, hcz34_1⟩ (fun hHeld => ?_)
        refine pu 0 45 ?_; refine pu 1 46 ?_; refine pu 2 47 ?_; refine pu 3 48 ?_; refine pu 4 49 ?_; refine ta 5 50 ?_; refine pu 6 51 ?_; refine pu 7 52 ?_; refine pu 8 53 ?_; refine pu 9 54 ?_; refine pu 10 55 ?_; refine ta 11 56 ?_; refine pu 12 57 ?_; refine pu 13 58 ?_; refine pu 14 59 ?_; refine pu 15 60 ?_; refine pu 16 61 ?_; refine pu 17 62 ?_
        refine last_ (i := 18) (N := none) #[true, true, true, true, true, true, true, true, true, true, true, true, true, true, true, true, true, true, true, false, false, false] rfl rfl sqk (by decide) (fun K hK => ?_)
        refine skip_ (w1 := (w33.drew.setCell ⟨g, 0, none⟩ (.string (t469.extract (x3_1 : Int).toNat t469.size)))) (by rfl) rfl ?run ?_
        (case run => first | (go_simp; done) | (go_simp; rfl))
        refine hK.out _ _ ?_
        clear hK K; refine pu 19 63 ?_; refine pu 20 64 ?_
        refine last_ (i := 21) (N := none) #[true, true, true, true, true, true, true, true, true, true, true, true, true, true, true, true, true, true, true, true, true, true] rfl rfl sqk (by decide) (fun K hK => ?_)
        refine skip_ (w1 := ((w33.drew.setCell ⟨g, 0, none⟩ (.string (t469.extract (x3_1 : Int).toNat t469.size))).setCell ⟨g, 1, none⟩ (.bool (!t474)))) (by rfl) rfl ?run ?_
        (case run => first | (go_simp; done) | (go_simp; rfl))
        refine hK.out _ _ ?_
        clear hK K
        refine dn ?_
        try go_wp2
        go_ret
        exact ⟨sqe, sqi, sqj, sqp⟩
      ·rw [if_neg c24] at H
       exact absurd H (by simp)
    ·rw [if_neg c5] at H
     exact absurd H (by simp)
   ·rw [if_neg c4] at H
    have c4b0 : decide (x3_1 < (t469.size : Int)) = false := decide_eq_false c4
    clear c4
    by_cases c35 : 0 ≤ x3_1
    ·rw [if_pos c35] at H
     have c35b0 := eq_true c35
     have c35b1 : decide (0 ≤ x3_1) = true := decide_eq_true c35
     clear c35
     by_cases c36 : x3_1 ≤ (t469.size : Int)
     ·rw [if_pos c36] at H
      have c36b0 := eq_true c36
      have c36b1 : decide (x3_1 ≤ (t469.size : Int)) = true := decide_eq_true c36
      clear c36
      obtain ⟨⟨t475, t476⟩, A37, H⟩ := bA H
      dsimp only at H
      have c38b0 := eq_true (of_decide_eq_true sqs : 0 ≤ x3_1)
      have c39b0 := eq_true (of_decide_eq_true sqs : x3_1 ≤ (t469.size : Int))
      by_cases c40 : t470 = true
      ·subst c40
       replace H := iT H
       simp only [Option.some.injEq, Prod.mk.injEq] at H
       obtain ⟨rfl, rfl, rfl⟩ := H
       obtain ⟨HGz41, hgz41⟩ := HI0.out
       have hcz41_0 := cellS42_0 HGz41
       have hcz41_1 := cellS42_1 HGz41
       have hfz41_0 := blk_frozen HGz41 0
       have hfz41_1 := blk_frozen HGz41 1
       clear HGz41 hgz41
       go_wp2_with (first | ((with_reducible refine gate_callee (f := 51) rfl ?_); refine goesL_ (some 42) rfl rfl Tryd.func51 sqk rfl #[.string (t469.extract 0 (x3_1 : Int).toNat)] rfl sqm ?_; (with_reducible refine (impl_ParseInt.calls (t469.extract 0 (x3_1 : Int).toNat) t475 t476 _ A37.out (HTab.out.below sqh)).mono ?_); rintro e w42 ⟨rfl, hb⟩; refine ⟨_, rfl, ?_⟩; replace HK := Aside0.mk (KeepBut.trans sqp (KeepBut.of_below hb g none) (.inl rfl)); replace HB := Aside0.mk (below_step sqj hb); replace HI0 := Aside0.mk (IsS42.below sqi hb); (try clear hb); obtain ⟨HGz43, hgz43⟩ := HI0.out; have hcz43_0 := cellS42_0 HGz43; have hcz43_1 := cellS42_1 HGz43; have hfz43_0 := blk_frozen HGz43 0; have hfz43_1 := blk_frozen HGz43 1; clear HGz43 hgz43))
       refine start_ (n := 22) (S := fun w' => w'.cell? ⟨g, 0, none⟩ = some (.string t469) ∧ w'.cell? ⟨g, 1, none⟩ = some (.bool true)) (ds := [18, 21]) #[false, false, false, false, false, false, false, false, false, false, false, false, false, false, false, false, false, false, false, false, false, false] sqk rfl rfl ⟨hcz43_0, hcz43_1⟩ (fun hHeld => ?_)
       refine pu 0 45 ?_; refine pu 1 46 ?_; refine pu 2 47 ?_; refine pu 3 48 ?_; refine pu 4 49 ?_; refine ta 5 50 ?_; refine pu 6 51 ?_; refine pu 7 52 ?_; refine pu 8 53 ?_; refine pu 9 54 ?_; refine pu 10 55 ?_; refine ta 11 56 ?_; refine pu 12 57 ?_
       refine pure_ (i := 13) (N := some 58) (v := undef) (a' := _) #[true, true, true, true, true, true, true, true, true, true, true, true, true, true, false, false, false, false, false, false, false, false] rfl rfl sqk (fun _ _ _ h => h) (Or.inr ⟨by rfl, rfl⟩) rfl ?_
       refine no 58 ?_
       refine pure_ (i := 14) (N := some 59) (v := undef) (a' := _) #[true, true, true, true, true, true, true, true, true, true, true, true, true, true, true, false, false, false, false, false, false, false] rfl rfl sqk (fun _ _ _ h => h) (Or.inr ⟨by rfl, rfl⟩) rfl ?_
       refine no 59 ?_; refine pu 15 60 ?_; refine pu 16 61 ?_; refine pu 17 62 ?_
       refine last_ (i := 18) (N := none) #[true, true, true, true, true, true, true, true, true, true, true, true, true, true, true, true, true, true, true, false, false, false] rfl rfl sqk (by decide) (fun K hK => ?_)
       refine skip_ (w1 := (w42.drew.setCell ⟨g, 0, none⟩ (.string (t469.extract (x3_1 : Int).toNat t469.size)))) (by rfl) rfl ?run ?_
       (case run => first | (go_simp; done) | (go_simp; rfl))
       refine hK.out _ _ ?_
       clear hK K; refine pu 19 63 ?_; refine pu 20 64 ?_
       refine last_ (i := 21) (N := none) #[true, true, true, true, true, true, true, true, true, true, true, true, true, true, true, true, true, true, true, true, true, true] rfl rfl sqk (by decide) (fun K hK => ?_)
       refine skip_ (w1 := ((w42.drew.setCell ⟨g, 0, none⟩ (.string (t469.extract (x3_1 : Int).toNat t469.size))).setCell ⟨g, 1, none⟩ (.bool true))) (by rfl) rfl ?run ?_
       (case run => first | (go_simp; done) | (go_simp; rfl))
       refine hK.out _ _ ?_
       clear hK K
       refine dn ?_
       try go_wp2
       go_ret
       exact ⟨sqe, sqi, sqj, sqp⟩
      ·replace c40 := Bool.eq_false_iff.mpr c40
       subst c40
       replace H := iF H
       simp only [Option.some.injEq, Prod.mk.injEq] at H
       obtain ⟨rfl, rfl, rfl⟩ := H
       obtain ⟨HGz44, hgz44⟩ := HI0.out
       have hcz44_0 := cellS42_0 HGz44
       have hcz44_1 := cellS42_1 HGz44
       have hfz44_0 := blk_frozen HGz44 0
       have hfz44_1 := blk_frozen HGz44 1
       clear HGz44 hgz44
       go_wp2_with (first | ((with_reducible refine gate_callee (f := 51) rfl ?_); refine goesL_ (some 42) rfl rfl Tryd.func51 sqk rfl #[.string (t469.extract 0 (x3_1 : Int).toNat)] rfl sqm ?_; (with_reducible refine (impl_ParseInt.calls (t469.extract 0 (x3_1 : Int).toNat) t475 t476 _ A37.out (HTab.out.below sqh)).mono ?_); rintro e w45 ⟨rfl, hb⟩; refine ⟨_, rfl, ?_⟩; replace HK := Aside0.mk (KeepBut.trans sqp (KeepBut.of_below hb g none) (.inl rfl)); replace HB := Aside0.mk (below_step sqj hb); replace HI0 := Aside0.mk (IsS42.below sqi hb); (try clear hb); obtain ⟨HGz46, hgz46⟩ := HI0.out; have hcz46_0 := cellS42_0 HGz46; have hcz46_1 := cellS42_1 HGz46; have hfz46_0 := blk_frozen HGz46 0; have hfz46_1 := blk_frozen HGz46 1; clear HGz46 hgz46))
       refine start_ (n := 22) (S := fun w' => w'.cell? ⟨g, 0, none⟩ = some (.string t469) ∧ w'.cell? ⟨g, 1, none⟩ = some (.bool false)) (ds := [18, 21]) #[false, false, false, false, false, false, false, false, false, false, false, false, false, false, false, false, false, false, false, false, false, false] sqk rfl rfl ⟨hcz46_0, hcz46_1⟩ (fun hHeld => ?_)
       refine pu 0 45 ?_; refine pu 1 46 ?_; refine pu 2 47 ?_; refine pu 3 48 ?_; refine pu 4 49 ?_; refine ta 5 50 ?_; refine pu 6 51 ?_; refine pu 7 52 ?_; refine pu 8 53 ?_; refine pu 9 54 ?_; refine pu 10 55 ?_; refine ta 11 56 ?_; refine pu 12 57 ?_; refine pu 13 58 ?_; refine pu 14 59 ?_; refine pu 15 60 ?_; refine pu 16 61 ?_; refine pu 17 62 ?_
       refine last_ (i := 18) (N := none) #[true, true, true, true, true, true, true, true, true, true, true, true, true, true, true, true, true, true, true, false, false, false] rfl rfl sqk (by decide) (fun K hK => ?_)
       refine skip_ (w1 := (w45.drew.setCell ⟨g, 0, none⟩ (.string (t469.extract (x3_1 : Int).toNat t469.size)))) (by rfl) rfl ?run ?_
       (case run => first | (go_simp; done) | (go_simp; rfl))
       refine hK.out _ _ ?_
       clear hK K; refine pu 19 63 ?_; refine pu 20 64 ?_
       refine last_ (i := 21) (N := none) #[true, true, true, true, true, true, true, true, true, true, true, true, true, true, true, true, true, true, true, true, true, true] rfl rfl sqk (by decide) (fun K hK => ?_)
       refine skip_ (w1 := ((w45.drew.setCell ⟨g, 0, none⟩ (.string (t469.extract (x3_1 : Int).toNat t469.size))).setCell ⟨g, 1, none⟩ (.bool (!t476)))) (by rfl) rfl ?run ?_
       (case run => first | (go_simp; done) | (go_simp; rfl))
       refine hK.out _ _ ?_
       clear hK K
       refine dn ?_
       try go_wp2
       go_ret
       exact ⟨sqe, sqi, sqj, sqp⟩
     ·rw [if_neg c36] at H
      exact absurd H (by simp)
    ·rw [if_neg c35] at H
     exact absurd H (by simp)

end Go.Proofs.YtilcmgdjfhhcdaaDoor.XFnTexts
