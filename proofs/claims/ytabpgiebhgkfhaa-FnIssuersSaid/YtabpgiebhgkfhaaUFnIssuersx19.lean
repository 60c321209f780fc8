/- Written by this session's own program (wip/xprint, which runs over the kit's print): what the functions that the law reaches come to, each proved; and the law's row. Conditions: none. -/
import Derived.Test.YtabpgiebhgkfhaaUFnIssuersSq
import Derived.Test.YtabpgiebhgkfhaaUFnIssuersx0
import Derived.Test.YtabpgiebhgkfhaaUFnIssuersx11
import Derived.Test.YtabpgiebhgkfhaaUFnIssuersx18
namespace Go.Proofs.Ytabpgiebhgkfhaa.XFnIssuers
open Go.RowKit Go.Proofs.YtabpgiebhgkfhaaW.PrintWords Go.Proofs.YtabpgiebhgkfhaaW.PrintLast Go.Proofs.YtabpgiebhgkfhaaW.PrintMore Go.Proofs.YtabpgiebhgkfhaaSq
attribute [local go_sem] max2_int min2_int max_two min_two max_three min_three max_four min_four   -- for this text's walks alone
set_option linter.unusedVariables false
set_option linter.unusedSimpArgs false

/-! ### spec_IsStore: function 107 -/
def spec_IsStore.l0 : Nat → List (S55) → Int → Option (Bool)
 | 0, _, _ => none
 | k + 1, x0, x3 => if x3 < (x0.length : Int) then (if 0 ≤ x3 then ((spec_IsFact.f ((rd_T55 x0 x3).f0) ((rd_T55 x0 x3).f1) ((rd_T55 x0 x3).f2) ((rd_T55 x0 x3).f3) ((rd_T55 x0 x3).f4) ((rd_T55 x0 x3).f5)).bind fun t559 => (if t559 = true then (if x3 > 0 then (if 0 ≤ (wrap64 (x3 - 1)) then (if (wrap64 (x3 - 1)) < (x0.length : Int) then ((spec_FactBefore.f ((rd_T55 x0 (wrap64 (x3 - 1))).f0) ((rd_T55 x0 (wrap64 (x3 - 1))).f1) ((rd_T55 x0 (wrap64 (x3 - 1))).f2) ((rd_T55 x0 (wrap64 (x3 - 1))).f3) ((rd_T55 x0 (wrap64 (x3 - 1))).f4) ((rd_T55 x0 (wrap64 (x3 - 1))).f5) ((rd_T55 x0 x3).f0) ((rd_T55 x0 x3).f1) ((rd_T55 x0 x3).f2) ((rd_T55 x0 x3).f3) ((rd_T55 x0 x3).f4) ((rd_T55 x0 x3).f5)).bind fun t562 => (if t562 = true then (spec_IsStore.l0 k x0 (wrap64 (x3 + 1))) else (some false))) else (none)) else (none)) else (spec_IsStore.l0 k x0 (wrap64 (x3 + 1)))) else (some false))) else (none)) else (some (decide ((x0.length : Int) ≤ 30)))
def spec_IsStore.f (k : Nat) (l0 : List (S55)) : Option (Bool) := spec_IsStore.l0 k l0 0
def spec_IsStore.T4 : Bool × List (List Nat × List Nat) := (true, [([], []), ([], []), ([0, 1], [0, 1]), ([2], [2]), ([3], [3]), ([4], [4]), ([5, 4], [5]), ([6], [6]), ([7, 6], [6, 7]), ([8, 6, 6], [6, 8]), ([9], [9]), ([9], [9]), ([11, 9], [9, 11]), ([10, 12, 9], [9, 10, 12]), ([13, 9], [9, 13]), ([9], [9]), ([9], [9]), ([15, 16, 9], [9, 15, 16]), ([17, 9], [9, 17]), ([14, 18, 9, 9], [9, 14, 18]), ([19, 9], [9, 19]), ([9, 20, 6], [6, 9, 20]), ([6, 21], [6, 21])])
def spec_IsStore.B4 : List Nat := [0, 0, 3, 7, 15, 31, 63, 127, 255, 511, 1023, 1023, 3071, 8191, 16383, 1023, 1023, 99327, 230399, 524287, 1048575, 2097151, 4194303]
theorem spec_IsStore.tab4 : rtab .any (opsOf Try.f107 4) = spec_IsStore.T4 := by kernel_rfl
theorem spec_IsStore.bits4 : waitsOk spec_IsStore.T4.2 spec_IsStore.B4 = true := by kernel_rfl
set_option maxHeartbeats 8000000 in
set_option maxRecDepth 100000 in
theorem spec_IsStore.calls (k : Nat) (A0 : Option Addr) (c0 : Nat) (l0 : List (S55)) (r : Bool) (w : World) (hr0 : Kd.C k55 w A0 l0.length l0) (hc0 : l0.length ≤ c0) (h : spec_IsStore.f k l0 = some r) :
  Calls Try.prog 107 #[.slice A0 l0.length c0] w fun e w' => e = .returned (.bool r) ∧ Below w.heap.size w w' := by
 have hu55 := Try.underlying55
 have HR0 := As_.mk hr0
 have HC0 := As_.mk hc0
 clear hr0 hc0
 have HB := As_.mk (Below.refl w.heap.size w)
 have H : (spec_IsStore.l0 k l0 0) = some r := h
 clear h
 have H' := As_.mk H
 clear H
 go_enter Try.func107, Try.ntmps107
 go_wp2
 go_loopg [3] k (fun kq v3 w' => ∃ (x3_1 : Int), v3 = .int .i64 x3_1 ∧ As_ (spec_IsStore.l0 kq l0 x3_1 = some r) ∧ As_ (kq ≤ k) ∧ As_ (Below w.heap.size w w'))
 case atStart => exact ⟨(0), sqr, H', ⟨Nat.le_refl _⟩, ⟨sqh⟩⟩
 case round =>
  clear H'; try clear c1
  obtain ⟨x3_1, rfl, HA, HK1, HB⟩ := hrel
  cases gk with
  | zero => exact absurd HA.out (by simp [spec_IsStore.l0])
  | succ k1 =>
   have H := HA.out
   clear HA
   simp only [spec_IsStore.l0] at H
   by_cases c2 : x3_1 < (l0.length : Int)
   ·rw [if_pos c2] at H
    have c2b0 : decide (x3_1 < (l0.length : Int)) = true := decide_eq_true c2
    clear c2
    by_cases c3 : 0 ≤ x3_1
    ·rw [if_pos c3] at H
     have c3b0 : decide (0 ≤ x3_1) = true := decide_eq_true c3
     clear c3
     obtain ⟨t559, A4, H⟩ := bA H
     by_cases c5 : t559 = true
     ·subst c5
      replace H := iT H
      by_cases c6 : x3_1 > 0
      ·rw [if_pos c6] at H
       have c6b0 : decide (0 < x3_1) = true := decide_eq_true c6
       clear c6
       obtain ⟨ji7, hji7⟩ : ∃ j_ : Int, (wrap64 (x3_1 - 1)) = j_ := ⟨_, rfl⟩
       replace H : (if 0 ≤ (ji7) then (if (ji7) < (l0.length : Int) then ((spec_FactBefore.f ((rd_T55 l0 (ji7)).f0) ((rd_T55 l0 (ji7)).f1) ((rd_T55 l0 (ji7)).f2) ((rd_T55 l0 (ji7)).f3) ((rd_T55 l0 (ji7)).f4) ((rd_T55 l0 (ji7)).f5) ((rd_T55 l0 x3_1).f0) ((rd_T55 l0 x3_1).f1) ((rd_T55 l0 x3_1).f2) ((rd_T55 l0 x3_1).f3) ((rd_T55 l0 x3_1).f4) ((rd_T55 l0 x3_1).f5)).bind fun t562 => (if t562 = true then (spec_IsStore.l0 k1 l0 (wrap64 (x3_1 + 1))) else (some false))) else (none)) else (none)) = some r := by first | (rw [hji7] at H; exact H) | (simp only [hji7] at H ⊢; exact H)
       (try rw [hji7] at A4)
       have hji7w : (IntKind.i64.wrap (x3_1 - 1)) = ji7 := (i64_w _).trans hji7
       by_cases c8 : 0 ≤ (ji7)
       ·rw [if_pos c8] at H
        have c8b0 : decide (0 ≤ (ji7)) = true := decide_eq_true c8
        clear c8
        by_cases c9 : (ji7) < (l0.length : Int)
        ·rw [if_pos c9] at H
         have c9b0 : decide ((ji7) < (l0.length : Int)) = true := decide_eq_true c9
         clear c9
         obtain ⟨t562, A10, H⟩ := bA H
         by_cases c11 : t562 = true
         ·subst c11
          replace H := iT H
          have H' := As_.mk H
          clear H
          try go_wp2
          replace HB := As_.mk (bD_ HB.out)
          have p558 : 0 ≤ (x3_1 : Int) := of_decide_eq_true sqs
          have q558 : x3_1 < (l0.length : Int) := of_decide_eq_true sqs
          obtain ⟨ad558, e558, hx558_0, hx558_1, hx558_2, hx558_3, hx558_4, hx558_5⟩ := at_T55 HR0.out x3_1 p558 q558
          have hw558_5 := hx558_5; have hw558_4 := hx558_4; have hw558_3 := hx558_3; have hw558_2 := hx558_2; have hw558_1 := hx558_1; have hw558_0 := hx558_0
          cases e558
          replace hx558_0 := cl HB hx558_0; replace hx558_1 := cl HB hx558_1; replace hx558_2 := cl HB hx558_2; replace hx558_3 := cl HB hx558_3; replace hx558_4 := cl HB hx558_4; replace hx558_5 := cl HB hx558_5
          replace p558 := eq_true p558
          replace q558 := eq_true q558
          have p560 : 0 ≤ ((ji7) : Int) := of_decide_eq_true sqs
          have q560 : (ji7) < (l0.length : Int) := of_decide_eq_true sqs
          obtain ⟨ad560, e560, hx560_0, hx560_1, hx560_2, hx560_3, hx560_4, hx560_5⟩ := at_T55 HR0.out (ji7) p560 q560
          have hw560_5 := hx560_5; have hw560_4 := hx560_4; have hw560_3 := hx560_3; have hw560_2 := hx560_2; have hw560_1 := hx560_1; have hw560_0 := hx560_0
          obtain rfl : ad558 = ad560 := (by injection e560)
          replace hx560_0 := cl HB hx560_0; replace hx560_1 := cl HB hx560_1; replace hx560_2 := cl HB hx560_2; replace hx560_3 := cl HB hx560_3; replace hx560_4 := cl HB hx560_4; replace hx560_5 := cl HB hx560_5
          replace p560 := eq_true p560
          replace q560 := eq_true q560
          have p561 : 0 ≤ (x3_1 : Int) := of_decide_eq_true sqs
          have q561 : x3_1 < (l0.length : Int) := of_decide_eq_true sqs
          obtain ⟨ad561, e561, hx561_0, hx561_1, hx561_2, hx561_3, hx561_4, hx561_5⟩ := at_T55 HR0.out x3_1 p561 q561
          have hw561_5 := hx561_5; have hw561_4 := hx561_4; have hw561_3 := hx561_3; have hw561_2 := hx561_2; have hw561_1 := hx561_1; have hw561_0 := hx561_0
          obtain rfl : ad558 = ad561 := (by injection e561)
          replace hx561_0 := cl HB hx561_0; replace hx561_1 := cl HB hx561_1; replace hx561_2 := cl HB hx561_2; replace hx561_3 := cl HB hx561_3; replace hx561_4 := cl HB hx561_4; replace hx561_5 := cl HB hx561_5
          replace p561 := eq_true p561
          replace q561 := eq_true q561
          refine start_ (n := 23) (S := fun w' => w'.cell? (ad558.add ((x3_1).toNat * 6)) = some (.int .i64 ((rd_T55 l0 x3_1).f0)) ∧ w'.cell? ⟨(ad558.add ((x3_1).toNat * 6)).block, (ad558.add ((x3_1).toNat * 6)).off + 1, none⟩ = some (.int .i64 ((rd_T55 l0 x3_1).f1)) ∧ w'.cell? ⟨(ad558.add ((x3_1).toNat * 6)).block, (ad558.add ((x3_1).toNat * 6)).off + 2, none⟩ = some (.int .i64 ((rd_T55 l0 x3_1).f2)) ∧ w'.cell? ⟨(ad558.add ((x3_1).toNat * 6)).block, (ad558.add ((x3_1).toNat * 6)).off + 3, none⟩ = some (.int .i64 ((rd_T55 l0 x3_1).f3)) ∧ w'.cell? ⟨(ad558.add ((x3_1).toNat * 6)).block, (ad558.add ((x3_1).toNat * 6)).off + 4, none⟩ = some (.int .i64 ((rd_T55 l0 x3_1).f4)) ∧ w'.cell? ⟨(ad558.add ((x3_1).toNat * 6)).block, (ad558.add ((x3_1).toNat * 6)).off + 5, none⟩ = some (.int .i64 ((rd_T55 l0 x3_1).f5)) ∧ w'.cell? (ad558.add (((ji7)).toNat * 6)) = some (.int .i64 ((rd_T55 l0 (ji7)).f0)) ∧ w'.cell? ⟨(ad558.add (((ji7)).toNat * 6)).block, (ad558.add (((ji7)).toNat * 6)).off + 1, none⟩ = some (.int .i64 ((rd_T55 l0 (ji7)).f1)) ∧ w'.cell? ⟨(ad558.add (((ji7)).toNat * 6)).block, (ad558.add (((ji7)).toNat * 6)).off + 2, none⟩ = some (.int .i64 ((rd_T55 l0 (ji7)).f2)) ∧ w'.cell? ⟨(ad558.add (((ji7)).toNat * 6)).block, (ad558.add (((ji7)).toNat * 6)).off + 3, none⟩ = some (.int .i64 ((rd_T55 l0 (ji7)).f3)) ∧ w'.cell? ⟨(ad558.add (((ji7)).toNat * 6)).block, (ad558.add (((ji7)).toNat * 6)).off + 4, none⟩ = some (.int .i64 ((rd_T55 l0 (ji7)).f4)) ∧ w'.cell? ⟨(ad558.add (((ji7)).toNat * 6)).block, (ad558.add (((ji7)).toNat * 6)).off + 5, none⟩ = some (.int .i64 ((rd_T55 l0 (ji7)).f5)) ∧ w'.cell? (ad558.add ((x3_1).toNat * 6)) = some (.int .i64 ((rd_T55 l0 x3_1).f0)) ∧ w'.cell? ⟨(ad558.add ((x3_1).toNat * 6)).block, (ad558.add ((x3_1).toNat * 6)).off + 1, none⟩ = some (.int .i64 ((rd_T55 l0 x3_1).f1)) ∧ w'.cell? ⟨(ad558.add ((x3_1).toNat * 6)).block, (ad558.add ((x3_1).toNat * 6)).off + 2, none⟩ = some (.int .i64 ((rd_T55 l0 x3_1).f2)) ∧ w'.cell? ⟨(ad558.add ((x3_1).toNat * 6)).block, (ad558.add ((x3_1).toNat * 6)).off + 3, none⟩ = some (.int .i64 ((rd_T55 l0 x3_1).f3)) ∧ w'.cell? ⟨(ad558.add ((x3_1).toNat * 6)).block, (ad558.add ((x3_1).toNat * 6)).off + 4, none⟩ = some (.int .i64 ((rd_T55 l0 x3_1).f4)) ∧ w'.cell? ⟨(ad558.add ((x3_1).toNat * 6)).block, (ad558.add ((x3_1).toNat * 6)).off + 5, none⟩ = some (.int .i64 ((rd_T55 l0 x3_1).f5))) (ds := []) #[false, false, false, false, false, false, false, false, false, false, false, false, false, false, false, false, false, false, false, false, false, false, false] sqk rfl rfl ⟨(cl HB hw558_0), (cl HB hw558_1), (cl HB hw558_2), (cl HB hw558_3), (cl HB hw558_4), (cl HB hw558_5), (cl HB hw560_0), (cl HB hw560_1), (cl HB hw560_2), (cl HB hw560_3), (cl HB hw560_4), (cl HB hw560_5), (cl HB hw561_0), (cl HB hw561_1), (cl HB hw561_2), (cl HB hw561_3), (cl HB hw561_4), (cl HB hw561_5)⟩ (fun hHeld => ?_); refine with_tabW spec_IsStore.tab4 spec_IsStore.bits4 (fun HT_ HW_ => ?_)
          generalize wr.drew = w12 at HB hx558_0 hx558_1 hx558_2 hx558_3 hx558_4 hx558_5 hx560_0 hx560_1 hx560_2 hx560_3 hx560_4 hx560_5 hx561_0 hx561_1 hx561_2 hx561_3 hx561_4 hx561_5 hHeld ⊢
          refine pu 0 10 ?_; refine pu 1 11 ?_; refine pu 2 12 ?_; refine ta 3 13 ?_
          refine on 4 (some 14) (fun K hK => ?_)
          refine goes_ Try.func79 sqk rfl #[.agg #[.int .i64 ((rd_T55 l0 x3_1).f0), .int .i64 ((rd_T55 l0 x3_1).f1), .int .i64 ((rd_T55 l0 x3_1).f2), .int .i64 ((rd_T55 l0 x3_1).f3), .int .i64 ((rd_T55 l0 x3_1).f4), .int .i64 ((rd_T55 l0 x3_1).f5)]] (by rfl) rfl rfl sqm ?_
          with_reducible refine (spec_IsFact.calls ((rd_T55 l0 x3_1).f0) ((rd_T55 l0 x3_1).f1) ((rd_T55 l0 x3_1).f2) ((rd_T55 l0 x3_1).f3) ((rd_T55 l0 x3_1).f4) ((rd_T55 l0 x3_1).f5) true _ A4.out).mono ?_
          rintro e w13 ⟨rfl, hb⟩
          refine ⟨_, rfl, ?_⟩
          replace HB := As_.mk (below_step sqh hb)
          (try clear hb)
          (try clear hb2)
          (try clear hk)
          (try clear hi)
          refine hK.out _ _ ⟨(cl HB hw558_0), (cl HB hw558_1), (cl HB hw558_2), (cl HB hw558_3), (cl HB hw558_4), (cl HB hw558_5), (cl HB hw560_0), (cl HB hw560_1), (cl HB hw560_2), (cl HB hw560_3), (cl HB hw560_4), (cl HB hw560_5), (cl HB hw561_0), (cl HB hw561_1), (cl HB hw561_2), (cl HB hw561_3), (cl HB hw561_4), (cl HB hw561_5)⟩ (fun hHeld => ?_)
          clear hK K; refine no 14 ?_; refine pu 5 15 ?_; refine pu 6 16 ?_; refine pu 7 17 ?_; refine pu 8 18 ?_; refine pu 9 19 ?_; refine pu 10 20 ?_; refine pu 11 21 ?_; refine pu 12 22 ?_; refine pu 13 23 ?_; refine pu 15 25 ?_; refine pu 16 26 ?_; refine pu 17 27 ?_; refine ta 14 24 ?_; refine ta 18 28 ?_
          refine on 19 (some 29) (fun K hK => ?_)
          refine goes_ Try.func108 sqk rfl #[.agg #[.int .i64 ((rd_T55 l0 (ji7)).f0), .int .i64 ((rd_T55 l0 (ji7)).f1), .int .i64 ((rd_T55 l0 (ji7)).f2), .int .i64 ((rd_T55 l0 (ji7)).f3), .int .i64 ((rd_T55 l0 (ji7)).f4), .int .i64 ((rd_T55 l0 (ji7)).f5)], .agg #[.int .i64 ((rd_T55 l0 x3_1).f0), .int .i64 ((rd_T55 l0 x3_1).f1), .int .i64 ((rd_T55 l0 x3_1).f2), .int .i64 ((rd_T55 l0 x3_1).f3), .int .i64 ((rd_T55 l0 x3_1).f4), .int .i64 ((rd_T55 l0 x3_1).f5)]] (by rfl) rfl rfl (by (try simp only [List.map_toArray, List.map_cons, List.map_nil]); first | done | (simp only [hji7]; rfl) | rfl | (simp only [List.length_drop, List.length_take]; rfl)) ?_
          with_reducible refine (spec_FactBefore.calls ((rd_T55 l0 (ji7)).f0) ((rd_T55 l0 (ji7)).f1) ((rd_T55 l0 (ji7)).f2) ((rd_T55 l0 (ji7)).f3) ((rd_T55 l0 (ji7)).f4) ((rd_T55 l0 (ji7)).f5) ((rd_T55 l0 x3_1).f0) ((rd_T55 l0 x3_1).f1) ((rd_T55 l0 x3_1).f2) ((rd_T55 l0 x3_1).f3) ((rd_T55 l0 x3_1).f4) ((rd_T55 l0 x3_1).f5) true _ A10.out).mono ?_
          rintro e w14 ⟨rfl, hb⟩
          refine ⟨_, rfl, ?_⟩
          replace HB := As_.mk (below_step sqh hb)
          (try clear hb)
          (try clear hb2)
          (try clear hk)
          (try clear hi)
          refine hK.out _ _ ⟨(cl HB hw558_0), (cl HB hw558_1), (cl HB hw558_2), (cl HB hw558_3), (cl HB hw558_4), (cl HB hw558_5), (cl HB hw560_0), (cl HB hw560_1), (cl HB hw560_2), (cl HB hw560_3), (cl HB hw560_4), (cl HB hw560_5), (cl HB hw561_0), (cl HB hw561_1), (cl HB hw561_2), (cl HB hw561_3), (cl HB hw561_4), (cl HB hw561_5)⟩ (fun hHeld => ?_)
          clear hK K; refine no 29 ?_; refine pu 20 30 ?_; refine pu 21 31 ?_; refine pu 22 32 ?_
          refine dn ?_
          try go_wp2
          go_roundg k1
          case measure => have := HK1.out; omega
          case rel => exact ⟨(wrap64 (x3_1 + 1)), sqr, H', ⟨by have := HK1.out; omega⟩, ⟨sqh⟩⟩
         ·replace c11 := Bool.eq_false_iff.mpr c11
          subst c11
          replace H := iF H
          obtain rfl := Option.some.inj H
          try go_wp2
          replace HB := As_.mk (bD_ HB.out)
          have p558 : 0 ≤ (x3_1 : Int) := of_decide_eq_true sqs
          have q558 : x3_1 < (l0.length : Int) := of_decide_eq_true sqs
          obtain ⟨ad558, e558, hx558_0, hx558_1, hx558_2, hx558_3, hx558_4, hx558_5⟩ := at_T55 HR0.out x3_1 p558 q558
          have hw558_5 := hx558_5; have hw558_4 := hx558_4; have hw558_3 := hx558_3; have hw558_2 := hx558_2; have hw558_1 := hx558_1; have hw558_0 := hx558_0
          cases e558
          replace hx558_0 := cl HB hx558_0; replace hx558_1 := cl HB hx558_1; replace hx558_2 := cl HB hx558_2; replace hx558_3 := cl HB hx558_3; replace hx558_4 := cl HB hx558_4; replace hx558_5 := cl HB hx558_5
          replace p558 := eq_true p558
          replace q558 := eq_true q558
          have p560 : 0 ≤ ((ji7) : Int) := of_decide_eq_true sqs
          have q560 : (ji7) < (l0.length : Int) := of_decide_eq_true sqs
          obtain ⟨ad560, e560, hx560_0, hx560_1, hx560_2, hx560_3, hx560_4, hx560_5⟩ := at_T55 HR0.out (ji7) p560 q560
          have hw560_5 := hx560_5; have hw560_4 := hx560_4; have hw560_3 := hx560_3; have hw560_2 := hx560_2; have hw560_1 := hx560_1; have hw560_0 := hx560_0
          obtain rfl : ad558 = ad560 := (by injection e560)
          replace hx560_0 := cl HB hx560_0; replace hx560_1 := cl HB hx560_1; replace hx560_2 := cl HB hx560_2; replace hx560_3 := cl HB hx560_3; replace hx560_4 := cl HB hx560_4; replace hx560_5 := cl HB hx560_5
          replace p560 := eq_true p560
          replace q560 := eq_true q560
          have p561 : 0 ≤ (x3_1 : Int) := of_decide_eq_true sqs
          have q561 : x3_1 < (l0.length : Int) := of_decide_eq_true sqs
          obtain ⟨ad561, e561, hx561_0, hx561_1, hx561_2, hx561_3, hx561_4, hx561_5⟩ := at_T55 HR0.out x3_1 p561 q561
          have hw561_5 := hx561_5; have hw561_4 := hx561_4; have hw561_3 := hx561_3; have hw561_2 := hx561_2; have hw561_1 := hx561_1; have hw561_0 := hx561_0
          obtain rfl : ad558 = ad561 := (by injection e561)
          replace hx561_0 := cl HB hx561_0; replace hx561_1 := cl HB hx561_1; replace hx561_2 := cl HB hx561_2; replace hx561_3 := cl HB hx561_3; replace hx561_4 := cl HB hx561_4; replace hx561_5 := cl HB hx561_5
          replace p561 := eq_true p561
          replace q561 := eq_true q561
          refine start_ (n := 23) (S := fun w' => w'.cell? (ad558.add ((x3_1).toNat * 6)) = some (.int .i64 ((rd_T55 l0 x3_1).f0)) ∧ w'.cell? ⟨(ad558.add ((x3_1).toNat * 6)).block, (ad558.add ((x3_1).toNat * 6)).off + 1, none⟩ = some (.int .i64 ((rd_T55 l0 x3_1).f1)) ∧ w'.cell? ⟨(ad558.add ((x3_1).toNat * 6)).block, (ad558.add ((x3_1).toNat * 6)).off + 2, none⟩ = some (.int .i64 ((rd_T55 l0 x3_1).f2)) ∧ w'.cell? ⟨(ad558.add ((x3_1).toNat * 6)).block, (ad558.add ((x3_1).toNat * 6)).off + 3, none⟩ = some (.int .i64 ((rd_T55 l0 x3_1).f3)) ∧ w'.cell? ⟨(ad558.add ((x3_1).toNat * 6)).block, (ad558.add ((x3_1).toNat * 6)).off + 4, none⟩ = some (.int .i64 ((rd_T55 l0 x3_1).f4)) ∧ w'.cell? ⟨(ad558.add ((x3_1).toNat * 6)).block, (ad558.add ((x3_1).toNat * 6)).off + 5, none⟩ = some (.int .i64 ((rd_T55 l0 x3_1).f5)) ∧ w'.cell? (ad558.add (((ji7)).toNat * 6)) = some (.int .i64 ((rd_T55 l0 (ji7)).f0)) ∧ w'.cell? ⟨(ad558.add (((ji7)).toNat * 6)).block, (ad558.add (((ji7)).toNat * 6)).off + 1, none⟩ = some (.int .i64 ((rd_T55 l0 (ji7)).f1)) ∧ w'.cell? ⟨(ad558.add (((ji7)).toNat * 6)).block, (ad558.add (((ji7)).toNat * 6)).off + 2, none⟩ = some (.int .i64 ((rd_T55 l0 (ji7)).f2)) ∧ w'.cell? ⟨(ad558.add (((ji7)).toNat * 6)).block, (ad558.add (((ji7)).toNat * 6)).off + 3, none⟩ = some (.int .i64 ((rd_T55 l0 (ji7)).f3)) ∧ w'.cell? ⟨(ad558.add (((ji7)).toNat * 6)).block, (ad558.add (((ji7)).toNat * 6)).off + 4, none⟩ = some (.int .i64 ((rd_T55 l0 (ji7)).f4)) ∧ w'.cell? ⟨(ad558.add (((ji7)).toNat * 6)).block, (ad558.add (((ji7)).toNat * 6)).off + 5, none⟩ = some (.int .i64 ((rd_T55 l0 (ji7)).f5)) ∧ w'.cell? (ad558.add ((x3_1).toNat * 6)) = some (.int .i64 ((rd_T55 l0 x3_1).f0)) ∧ w'.cell? ⟨(ad558.add ((x3_1).toNat * 6)).block, (ad558.add ((x3_1).toNat * 6)).off + 1, none⟩ = some (.int .i64 ((rd_T55 l0 x3_1).f1)) ∧ w'.cell? ⟨(ad558.add ((x3_1).toNat * 6)).block, (ad558.add ((x3_1).toNat * 6)).off + 2, none⟩ = some (.int .i64 ((rd_T55 l0 x3_1).f2)) ∧ w'.cell? ⟨(ad558.add ((x3_1).toNat * 6)).block, (ad558.add ((x3_1).toNat * 6)).off + 3, none⟩ = some (.int .i64 ((rd_T55 l0 x3_1).f3)) ∧ w'.cell? ⟨(ad558.add ((x3_1).toNat * 6)).block, (ad558.add ((x3_1).toNat * 6)).off + 4, none⟩ = some (.int .i64 ((rd_T55 l0 x3_1).f4)) ∧ w'.cell? ⟨(ad558.add ((x3_1).toNat * 6)).block, (ad558.add ((x3_1).toNat * 6)).off + 5, none⟩ = some (.int .i64 ((rd_T55 l0 x3_1).f5))) (ds := []) #[false, false, false, false, false, false, false, false, false, false, false, false, false, false, false, false, false, false, false, false, false, false, false] sqk rfl rfl ⟨(cl HB hw558_0), (cl HB hw558_1), (cl HB hw558_2), (cl HB hw558_3), (cl HB hw558_4), (cl HB hw558_5), (cl HB hw560_0), (cl HB hw560_1), (cl HB hw560_2), (cl HB hw560_3), (cl HB hw560_4), (cl HB hw560_5), (cl HB hw561_0), (cl HB hw561_1), (cl HB hw561_2), (cl HB hw561_3), (cl HB hw561_4), (cl HB hw561_5)⟩ (fun hHeld => ?_); refine with_tabW spec_IsStore.tab4 spec_IsStore.bits4 (fun HT_ HW_ => ?_)
          generalize wr.drew = w15 at HB hx558_0 hx558_1 hx558_2 hx558_3 hx558_4 hx558_5 hx560_0 hx560_1 hx560_2 hx560_3 hx560_4 hx560_5 hx561_0 hx561_1 hx561_2 hx561_3 hx561_4 hx561_5 hHeld ⊢
          refine pu 0 10 ?_; refine pu 1 11 ?_; refine pu 2 12 ?_; refine ta 3 13 ?_
          refine on 4 (some 14) (fun K hK => ?_)
          refine goes_ Try.func79 sqk rfl #[.agg #[.int .i64 ((rd_T55 l0 x3_1).f0), .int .i64 ((rd_T55 l0 x3_1).f1), .int .i64 ((rd_T55 l0 x3_1).f2), .int .i64 ((rd_T55 l0 x3_1).f3), .int .i64 ((rd_T55 l0 x3_1).f4), .int .i64 ((rd_T55 l0 x3_1).f5)]] (by rfl) rfl rfl sqm ?_
          with_reducible refine (spec_IsFact.calls ((rd_T55 l0 x3_1).f0) ((rd_T55 l0 x3_1).f1) ((rd_T55 l0 x3_1).f2) ((rd_T55 l0 x3_1).f3) ((rd_T55 l0 x3_1).f4) ((rd_T55 l0 x3_1).f5) true _ A4.out).mono ?_
          rintro e w16 ⟨rfl, hb⟩
          refine ⟨_, rfl, ?_⟩
          replace HB := As_.mk (below_step sqh hb)
          (try clear hb)
          (try clear hb2)
          (try clear hk)
          (try clear hi)
          refine hK.out _ _ ⟨(cl HB hw558_0), (cl HB hw558_1), (cl HB hw558_2), (cl HB hw558_3), (cl HB hw558_4), (cl HB hw558_5), (cl HB hw560_0), (cl HB hw560_1), (cl HB hw560_2), (cl HB hw560_3), (cl HB hw560_4), (cl HB hw560_5), (cl HB hw561_0), (cl HB hw561_1), (cl HB hw561_2), (cl HB hw561_3), (cl HB hw561_4), (cl HB hw561_5)⟩ (fun hHeld => ?_)
          clear hK K; refine no 14 ?_; refine pu 5 15 ?_; refine pu 6 16 ?_; refine pu 7 17 ?_; refine pu 8 18 ?_; refine pu 9 19 ?_; refine pu 10 20 ?_; refine pu 11 21 ?_; refine pu 12 22 ?_; refine pu 13 23 ?_; refine pu 15 25 ?_; refine pu 16 26 ?_; refine pu 17 27 ?_; refine ta 14 24 ?_; refine ta 18 28 ?_
          refine on 19 (some 29) (fun K hK => ?_)
          refine goes_ Try.func108 sqk rfl #[.agg #[.int .i64 ((rd_T55 l0 (ji7)).f0), .int .i64 ((rd_T55 l0 (ji7)).f1), .int .i64 ((rd_T55 l0 (ji7)).f2), .int .i64 ((rd_T55 l0 (ji7)).f3), .int .i64 ((rd_T55 l0 (ji7)).f4), .int .i64 ((rd_T55 l0 (ji7)).f5)], .agg #[.int .i64 ((rd_T55 l0 x3_1).f0), .int .i64 ((rd_T55 l0 x3_1).f1), .int .i64 ((rd_T55 l0 x3_1).f2), .int .i64 ((rd_T55 l0 x3_1).f3), .int .i64 ((rd_T55 l0 x3_1).f4), .int .i64 ((rd_T55 l0 x3_1).f5)]] (by rfl) rfl rfl (by (try simp only [List.map_toArray, List.map_cons, List.map_nil]); first | done | (simp only [hji7]; rfl) | rfl | (simp only [List.length_drop, List.length_take]; rfl)) ?_
          with_reducible refine (spec_FactBefore.calls ((rd_T55 l0 (ji7)).f0) ((rd_T55 l0 (ji7)).f1) ((rd_T55 l0 (ji7)).f2) ((rd_T55 l0 (ji7)).f3) ((rd_T55 l0 (ji7)).f4) ((rd_T55 l0 (ji7)).f5) ((rd_T55 l0 x3_1).f0) ((rd_T55 l0 x3_1).f1) ((rd_T55 l0 x3_1).f2) ((rd_T55 l0 x3_1).f3) ((rd_T55 l0 x3_1).f4) ((rd_T55 l0 x3_1).f5) false _ A10.out).mono ?_
          rintro e w17 ⟨rfl, hb⟩
          refine ⟨_, rfl, ?_⟩
          replace HB := As_.mk (below_step sqh hb)
          (try clear hb)
          (try clear hb2)
          (try clear hk)
          (try clear hi)
          refine hK.out _ _ ⟨(cl HB hw558_0), (cl HB hw558_1), (cl HB hw558_2), (cl HB hw558_3), (cl HB hw558_4), (cl HB hw558_5), (cl HB hw560_0), (cl HB hw560_1), (cl HB hw560_2), (cl HB hw560_3), (cl HB hw560_4), (cl HB hw560_5), (cl HB hw561_0), (cl HB hw561_1), (cl HB hw561_2), (cl HB hw561_3), (cl HB hw561_4), (cl HB hw561_5)⟩ (fun hHeld => ?_)
          clear hK K; refine no 29 ?_; refine pu 20 30 ?_; refine pu 21 31 ?_; refine pu 22 32 ?_
          refine dn ?_
          try go_wp2
          go_ret
          exact ⟨by first | rfl | (simp [errW_none, errW_some] <;> rfl) | (simp only [← hji7]; first | rfl | (simp [errW_none, errW_some] <;> rfl)) | (simp [*, errW_none, errW_some] <;> rfl), sqh⟩
        ·rw [if_neg c9] at H
         exact absurd H (by simp)
       ·rw [if_neg c8] at H
        exact absurd H (by simp)
      ·rw [if_neg c6] at H
       have c6b0 : decide (0 < x3_1) = false := decide_eq_false c6
       clear c6
       have H' := As_.mk H
       clear H
       try go_wp2
       replace HB := As_.mk (bD_ HB.out)
       have p558 : 0 ≤ (x3_1 : Int) := of_decide_eq_true sqs
       have q558 : x3_1 < (l0.length : Int) := of_decide_eq_true sqs
       obtain ⟨ad558, e558, hx558_0, hx558_1, hx558_2, hx558_3, hx558_4, hx558_5⟩ := at_T55 HR0.out x3_1 p558 q558
       have hw558_5 := hx558_5; have hw558_4 := hx558_4; have hw558_3 := hx558_3; have hw558_2 := hx558_2; have hw558_1 := hx558_1; have hw558_0 := hx558_0
       cases e558
       replace hx558_0 := cl HB hx558_0; replace hx558_1 := cl HB hx558_1; replace hx558_2 := cl HB hx558_2; replace hx558_3 := cl HB hx558_3; replace hx558_4 := cl HB hx558_4; replace hx558_5 := cl HB hx558_5
       replace p558 := eq_true p558
       replace q558 := eq_true q558
       refine start_ (n := 23) (S := fun w' => w'.cell? (ad558.add ((x3_1).toNat * 6)) = some (.int .i64 ((rd_T55 l0 x3_1).f0)) ∧ w'.cell? ⟨(ad558.add ((x3_1).toNat * 6)).block, (ad558.add ((x3_1).toNat * 6)).off + 1, none⟩ = some (.int .i64 ((rd_T55 l0 x3_1).f1)) ∧ w'.cell? ⟨(ad558.add ((x3_1).toNat * 6)).block, (ad558.add ((x3_1).toNat * 6)).off + 2, none⟩ = some (.int .i64 ((rd_T55 l0 x3_1).f2)) ∧ w'.cell? ⟨(ad558.add ((x3_1).toNat * 6)).block, (ad558.add ((x3_1).toNat * 6)).off + 3, none⟩ = some (.int .i64 ((rd_T55 l0 x3_1).f3)) ∧ w'.cell? ⟨(ad558.add ((x3_1).toNat * 6)).block, (ad558.add ((x3_1).toNat * 6)).off + 4, none⟩ = some (.int .i64 ((rd_T55 l0 x3_1).f4)) ∧ w'.cell? ⟨(ad558.add ((x3_1).toNat * 6)).block, (ad558.add ((x3_1).toNat * 6)).off + 5, none⟩ = some (.int .i64 ((rd_T55 l0 x3_1).f5))) (ds := []) #[false, false, false, false, false, false, false, false, false, false, false, false, false, false, false, false, false, false, false, false, false, false, false] sqk rfl rfl ⟨(cl HB hw558_0), (cl HB hw558_1), (cl HB hw558_2), (cl HB hw558_3), (cl HB hw558_4), (cl HB hw558_5)⟩ (fun hHeld => ?_); refine with_tabW spec_IsStore.tab4 spec_IsStore.bits4 (fun HT_ HW_ => ?_)
       generalize wr.drew = w18 at HB hx558_0 hx558_1 hx558_2 hx558_3 hx558_4 hx558_5 hHeld ⊢
       refine pu 0 10 ?_; refine pu 1 11 ?_; refine pu 2 12 ?_; refine ta 3 13 ?_
       refine on 4 (some 14) (fun K hK => ?_)
       refine goes_ Try.func79 sqk rfl #[.agg #[.int .i64 ((rd_T55 l0 x3_1).f0), .int .i64 ((rd_T55 l0 x3_1).f1), .int .i64 ((rd_T55 l0 x3_1).f2), .int .i64 ((rd_T55 l0 x3_1).f3), .int .i64 ((rd_T55 l0 x3_1).f4), .int .i64 ((rd_T55 l0 x3_1).f5)]] (by rfl) rfl rfl sqm ?_
       with_reducible refine (spec_IsFact.calls ((rd_T55 l0 x3_1).f0) ((rd_T55 l0 x3_1).f1) ((rd_T55 l0 x3_1).f2) ((rd_T55 l0 x3_1).f3) ((rd_T55 l0 x3_1).f4) ((rd_T55 l0 x3_1).f5) true _ A4.out).mono ?_
       rintro e w19 ⟨rfl, hb⟩
       refine ⟨_, rfl, ?_⟩
       replace HB := As_.mk (below_step sqh hb)
       (try clear hb)
       (try clear hb2)
       (try clear hk)
       (try clear hi)
       refine hK.out _ _ ⟨(cl HB hw558_0), (cl HB hw558_1), (cl HB hw558_2), (cl HB hw558_3), (cl HB hw558_4), (cl HB hw558_5)⟩ (fun hHeld => ?_)
       clear hK K; refine no 14 ?_; refine pu 5 15 ?_; refine pu 6 16 ?_; refine pu 7 17 ?_; refine pu 8 18 ?_; refine pu 9 19 ?_
       refine pure_ (i := 10) (N := some 20) (v := undef) (a' := ?_) #[true, true, true, true, true, true, true, true, true, true, true, false, false, false, false, false, false, false, false, false, false, false, false] rfl rfl (any_of HT_.out sqk) (fun _ _ _ h => h) (Or.inr ⟨by rfl, rfl⟩) ?_ ?_
       rotate_left
       ·simp only [Act.put, List.setIfInBounds_toArray, List.set_cons_zero, List.set_cons_succ, i64_w, i32_w]
        rfl
       refine pure_ (i := 11) (N := some 21) (v := undef) (a' := ?_) #[true, true, true, true, true, true, true, true, true, true, true, true, false, false, false, false, false, false, false, false, false, false, false] rfl rfl (any_of HT_.out sqk) (fun _ _ _ h => h) (Or.inr ⟨by rfl, rfl⟩) ?_ ?_
       rotate_left
       ·simp only [Act.put, List.setIfInBounds_toArray, List.set_cons_zero, List.set_cons_succ, i64_w, i32_w]
        rfl
       refine pure_ (i := 12) (N := some 22) (v := undef) (a' := ?_) #[true, true, true, true, true, true, true, true, true, true, true, true, true, false, false, false, false, false, false, false, false, false, false] rfl rfl (any_of HT_.out sqk) (fun _ _ _ h => h) (Or.inr ⟨by rfl, rfl⟩) ?_ ?_
       rotate_left
       ·simp only [Act.put, List.setIfInBounds_toArray, List.set_cons_zero, List.set_cons_succ, i64_w, i32_w]
        rfl
       refine pure_ (i := 13) (N := some 23) (v := undef) (a' := ?_) #[true, true, true, true, true, true, true, true, true, true, true, true, true, true, false, false, false, false, false, false, false, false, false] rfl rfl (any_of HT_.out sqk) (fun _ _ _ h => h) (Or.inr ⟨by rfl, rfl⟩) ?_ ?_
       rotate_left
       ·simp only [Act.put, List.setIfInBounds_toArray, List.set_cons_zero, List.set_cons_succ, i64_w, i32_w]
        rfl
       refine pure_ (i := 14) (N := some 24) (v := undef) (a' := ?_) #[true, true, true, true, true, true, true, true, true, true, true, true, true, true, true, false, false, false, false, false, false, false, false] rfl rfl (any_of HT_.out sqk) (fun _ _ _ h => h) (Or.inr ⟨by rfl, rfl⟩) ?_ ?_
       rotate_left
       ·simp only [Act.put, List.setIfInBounds_toArray, List.set_cons_zero, List.set_cons_succ, i64_w, i32_w]
        rfl
       refine pure_ (i := 15) (N := some 25) (v := undef) (a' := ?_) #[true, true, true, true, true, true, true, true, true, true, true, true, true, true, true, true, false, false, false, false, false, false, false] rfl rfl (any_of HT_.out sqk) (fun _ _ _ h => h) (Or.inr ⟨by rfl, rfl⟩) ?_ ?_
       rotate_left
       ·simp only [Act.put, List.setIfInBounds_toArray, List.set_cons_zero, List.set_cons_succ, i64_w, i32_w]
        rfl
       refine pure_ (i := 16) (N := some 26) (v := undef) (a' := ?_) #[true, true, true, true, true, true, true, true, true, true, true, true, true, true, true, true, true, false, false, false, false, false, false] rfl rfl (any_of HT_.out sqk) (fun _ _ _ h => h) (Or.inr ⟨by rfl, rfl⟩) ?_ ?_
       rotate_left
       ·simp only [Act.put, List.setIfInBounds_toArray, List.set_cons_zero, List.set_cons_succ, i64_w, i32_w]
        rfl
       refine pure_ (i := 17) (N := some 27) (v := undef) (a' := ?_) #[true, true, true, true, true, true, true, true, true, true, true, true, true, true, true, true, true, true, false, false, false, false, false] rfl rfl (any_of HT_.out sqk) (fun _ _ _ h => h) (Or.inr ⟨by rfl, rfl⟩) ?_ ?_
       rotate_left
       ·simp only [Act.put, List.setIfInBounds_toArray, List.set_cons_zero, List.set_cons_succ, i64_w, i32_w]
        rfl
       refine pure_ (i := 18) (N := some 28) (v := undef) (a' := ?_) #[true, true, true, true, true, true, true, true, true, true, true, true, true, true, true, true, true, true, true, false, false, false, false] rfl rfl (any_of HT_.out sqk) (fun _ _ _ h => h) (Or.inr ⟨by rfl, rfl⟩) ?_ ?_
       rotate_left
       ·simp only [Act.put, List.setIfInBounds_toArray, List.set_cons_zero, List.set_cons_succ, i64_w, i32_w]
        rfl
       refine pure_ (i := 19) (N := some 29) (v := undef) (a' := ?_) #[true, true, true, true, true, true, true, true, true, true, true, true, true, true, true, true, true, true, true, true, false, false, false] rfl rfl (any_of HT_.out sqk) (fun _ _ _ h => h) (Or.inr ⟨by rfl, rfl⟩) ?_ ?_
       rotate_left
       ·simp only [Act.put, List.setIfInBounds_toArray, List.set_cons_zero, List.set_cons_succ, i64_w, i32_w]
        rfl
       refine pure_ (i := 20) (N := some 30) (v := undef) (a' := ?_) #[true, true, true, true, true, true, true, true, true, true, true, true, true, true, true, true, true, true, true, true, true, false, false] rfl rfl (any_of HT_.out sqk) (fun _ _ _ h => h) (Or.inr ⟨by rfl, rfl⟩) ?_ ?_
       rotate_left
       ·simp only [Act.put, List.setIfInBounds_toArray, List.set_cons_zero, List.set_cons_succ, i64_w, i32_w]
        rfl
       refine pu 21 31 ?_; refine pu 22 32 ?_
       refine dn ?_
       try go_wp2
       go_roundg k1
       case measure => have := HK1.out; omega
       case rel => exact ⟨(wrap64 (x3_1 + 1)), sqr, H', ⟨by have := HK1.out; omega⟩, ⟨sqh⟩⟩
     ·replace c5 := Bool.eq_false_iff.mpr c5
      subst c5
      replace H := iF H
      obtain rfl := Option.some.inj H
      try go_wp2
      replace HB := As_.mk (bD_ HB.out)
      have p558 : 0 ≤ (x3_1 : Int) := of_decide_eq_true sqs
      have q558 : x3_1 < (l0.length : Int) := of_decide_eq_true sqs
      obtain ⟨ad558, e558, hx558_0, hx558_1, hx558_2, hx558_3, hx558_4, hx558_5⟩ := at_T55 HR0.out x3_1 p558 q558
      have hw558_5 := hx558_5; have hw558_4 := hx558_4; have hw558_3 := hx558_3; have hw558_2 := hx558_2; have hw558_1 := hx558_1; have hw558_0 := hx558_0
      cases e558
      replace hx558_0 := cl HB hx558_0; replace hx558_1 := cl HB hx558_1; replace hx558_2 := cl HB hx558_2; replace hx558_3 := cl HB hx558_3; replace hx558_4 := cl HB hx558_4; replace hx558_5 := cl HB hx558_5
      replace p558 := eq_true p558
      replace q558 := eq_true q558
      refine start_ (n := 23) (S := fun w' => w'.cell? (ad558.add ((x3_1).toNat * 6)) = some (.int .i64 ((rd_T55 l0 x3_1).f0)) ∧ w'.cell? ⟨(ad558.add ((x3_1).toNat * 6)).block, (ad558.add ((x3_1).toNat * 6)).off + 1, none⟩ = some (.int .i64 ((rd_T55 l0 x3_1).f1)) ∧ w'.cell? ⟨(ad558.add ((x3_1).toNat * 6)).block, (ad558.add ((x3_1).toNat * 6)).off + 2, none⟩ = some (.int .i64 ((rd_T55 l0 x3_1).f2)) ∧ w'.cell? ⟨(ad558.add ((x3_1).toNat * 6)).block, (ad558.add ((x3_1).toNat * 6)).off + 3, none⟩ = some (.int .i64 ((rd_T55 l0 x3_1).f3)) ∧ w'.cell? ⟨(ad558.add ((x3_1).toNat * 6)).block, (ad558.add ((x3_1).toNat * 6)).off + 4, none⟩ = some (.int .i64 ((rd_T55 l0 x3_1).f4)) ∧ w'.cell? ⟨(ad558.add ((x3_1).toNat * 6)).block, (ad558.add ((x3_1).toNat * 6)).off + 5, none⟩ = some (.int .i64 ((rd_T55 l0 x3_1).f5))) (ds := []) #[false, false, false, false, false, false, false, false, false, false, false, false, false, false, false, false, false, false, false, false, false, false, false] sqk rfl rfl ⟨(cl HB hw558_0), (cl HB hw558_1), (cl HB hw558_2), (cl HB hw558_3), (cl HB hw558_4), (cl HB hw558_5)⟩ (fun hHeld => ?_); refine with_tabW spec_IsStore.tab4 spec_IsStore.bits4 (fun HT_ HW_ => ?_)
      generalize wr.drew = w20 at HB hx558_0 hx558_1 hx558_2 hx558_3 hx558_4 hx558_5 hHeld ⊢
      refine pu 0 10 ?_; refine pu 1 11 ?_; refine pu 2 12 ?_; refine ta 3 13 ?_
      refine on 4 (some 14) (fun K hK => ?_)
      refine goes_ Try.func79 sqk rfl #[.agg #[.int .i64 ((rd_T55 l0 x3_1).f0), .int .i64 ((rd_T55 l0 x3_1).f1), .int .i64 ((rd_T55 l0 x3_1).f2), .int .i64 ((rd_T55 l0 x3_1).f3), .int .i64 ((rd_T55 l0 x3_1).f4), .int .i64 ((rd_T55 l0 x3_1).f5)]] (by rfl) rfl rfl sqm ?_
      with_reducible refine (spec_IsFact.calls ((rd_T55 l0 x3_1).f0) ((rd_T55 l0 x3_1).f1) ((rd_T55 l0 x3_1).f2) ((rd_T55 l0 x3_1).f3) ((rd_T55 l0 x3_1).f4) ((rd_T55 l0 x3_1).f5) false _ A4.out).mono ?_
      rintro e w21 ⟨rfl, hb⟩
      refine ⟨_, rfl, ?_⟩
      replace HB := As_.mk (below_step sqh hb)
      (try clear hb)
      (try clear hb2)
      (try clear hk)
      (try clear hi)
      refine hK.out _ _ ⟨(cl HB hw558_0), (cl HB hw558_1), (cl HB hw558_2), (cl HB hw558_3), (cl HB hw558_4), (cl HB hw558_5)⟩ (fun hHeld => ?_)
      clear hK K; refine no 14 ?_; refine pu 5 15 ?_; refine pu 6 16 ?_
      refine pure_ (i := 7) (N := some 17) (v := undef) (a' := ?_) #[true, true, true, true, true, true, true, true, false, false, false, false, false, false, false, false, false, false, false, false, false, false, false] rfl rfl (any_of HT_.out sqk) (fun _ _ _ h => h) (Or.inr ⟨by rfl, rfl⟩) ?_ ?_
      rotate_left
      ·simp only [Act.put, List.setIfInBounds_toArray, List.set_cons_zero, List.set_cons_succ, i64_w, i32_w]
       rfl
      refine pure_ (i := 8) (N := some 18) (v := undef) (a' := ?_) #[true, true, true, true, true, true, true, true, true, false, false, false, false, false, false, false, false, false, false, false, false, false, false] rfl rfl (any_of HT_.out sqk) (fun _ _ _ h => h) (Or.inr ⟨by rfl, rfl⟩) ?_ ?_
      rotate_left
      ·simp only [Act.put, List.setIfInBounds_toArray, List.set_cons_zero, List.set_cons_succ, i64_w, i32_w]
       rfl
      refine pure_ (i := 9) (N := some 19) (v := undef) (a' := ?_) #[true, true, true, true, true, true, true, true, true, true, false, false, false, false, false, false, false, false, false, false, false, false, false] rfl rfl (any_of HT_.out sqk) (fun _ _ _ h => h) (Or.inr ⟨by rfl, rfl⟩) ?_ ?_
      rotate_left
      ·simp only [Act.put, List.setIfInBounds_toArray, List.set_cons_zero, List.set_cons_succ, i64_w, i32_w]
       rfl
      refine pure_ (i := 10) (N := some 20) (v := undef) (a' := ?_) #[true, true, true, true, true, true, true, true, true, true, true, false, false, false, false, false, false, false, false, false, false, false, false] rfl rfl (any_of HT_.out sqk) (fun _ _ _ h => h) (Or.inr ⟨by rfl, rfl⟩) ?_ ?_
      rotate_left
      ·simp only [Act.put, List.setIfInBounds_toArray, List.set_cons_zero, List.set_cons_succ, i64_w, i32_w]
       rfl
      refine pure_ (i := 11) (N := some 21) (v := undef) (a' := ?_) #[true, true, true, true, true, true, true, true, true, true, true, true, false, false, false, false, false, false, false, false, false, false, false] rfl rfl (any_of HT_.out sqk) (fun _ _ _ h => h) (Or.inr ⟨by rfl, rfl⟩) ?_ ?_
      rotate_left
      ·simp only [Act.put, List.setIfInBounds_toArray, List.set_cons_zero, List.set_cons_succ, i64_w, i32_w]
       rfl
      refine pure_ (i := 12) (N := some 22) (v := undef) (a' := ?_) #[true, true, true, true, true, true, true, true, true, true, true, true, true, false, false, false, false, false, false, false, false, false, false] rfl rfl (any_of HT_.out sqk) (fun _ _ _ h => h) (Or.inr ⟨by rfl, rfl⟩) ?_ ?_
      rotate_left
      ·simp only [Act.put, List.setIfInBounds_toArray, List.set_cons_zero, List.set_cons_succ, i64_w, i32_w]
       rfl
      refine pure_ (i := 13) (N := some 23) (v := undef) (a' := ?_) #[true, true, true, true, true, true, true, true, true, true, true, true, true, true, false, false, false, false, false, false, false, false, false] rfl rfl (any_of HT_.out sqk) (fun _ _ _ h => h) (Or.inr ⟨by rfl, rfl⟩) ?_ ?_
      rotate_left
      ·simp only [Act.put, List.setIfInBounds_toArray, List.set_cons_zero, List.set_cons_succ, i64_w, i32_w]
       rfl
      refine pure_ (i := 14) (N := some 24) (v := undef) (a' := ?_) #[true, true, true, true, true, true, true, true, true, true, true, true, true, true, true, false, false, false, false, false, false, false, false] rfl rfl (any_of HT_.out sqk) (fun _ _ _ h => h) (Or.inr ⟨by rfl, rfl⟩) ?_ ?_
      rotate_left
      ·simp only [Act.put, List.setIfInBounds_toArray, List.set_cons_zero, List.set_cons_succ, i64_w, i32_w]
       rfl
      refine pure_ (i := 15) (N := some 25) (v := undef) (a' := ?_) #[true, true, true, true, true, true, true, true, true, true, true, true, true, true, true, true, false, false, false, false, false, false, false] rfl rfl (any_of HT_.out sqk) (fun _ _ _ h => h) (Or.inr ⟨by rfl, rfl⟩) ?_ ?_
      rotate_left
      ·simp only [Act.put, List.setIfInBounds_toArray, List.set_cons_zero, List.set_cons_succ, i64_w, i32_w]
       rfl
      refine pure_ (i := 16) (N := some 26) (v := undef) (a' := ?_) #[true, true, true, true, true, true, true, true, true, true, true, true, true, true, true, true, true, false, false, false, false, false, false] rfl rfl (any_of HT_.out sqk) (fun _ _ _ h => h) (Or.inr ⟨by rfl, rfl⟩) ?_ ?_
      rotate_left
      ·simp only [Act.put, List.setIfInBounds_toArray, List.set_cons_zero, List.set_cons_succ, i64_w, i32_w]
       rfl
      refine pure_ (i := 17) (N := some 27) (v := undef) (a' := ?_) #[true, true, true, true, true, true, true, true, true, true, true, true, true, true, true, true, true, true, false, false, false, false, false] rfl rfl (any_of HT_.out sqk) (fun _ _ _ h => h) (Or.inr ⟨by rfl, rfl⟩) ?_ ?_
      rotate_left
      ·simp only [Act.put, List.setIfInBounds_toArray, List.set_cons_zero, List.set_cons_succ, i64_w, i32_w]
       rfl
      refine pure_ (i := 18) (N := some 28) (v := undef) (a' := ?_) #[true, true, true, true, true, true, true, true, true, true, true, true, true, true, true, true, true, true, true, false, false, false, false] rfl rfl (any_of HT_.out sqk) (fun _ _ _ h => h) (Or.inr ⟨by rfl, rfl⟩) ?_ ?_
      rotate_left
      ·simp only [Act.put, List.setIfInBounds_toArray, List.set_cons_zero, List.set_cons_succ, i64_w, i32_w]
       rfl
      refine pure_ (i := 19) (N := some 29) (v := undef) (a' := ?_) #[true, true, true, true, true, true, true, true, true, true, true, true, true, true, true, true, true, true, true, true, false, false, false] rfl rfl (any_of HT_.out sqk) (fun _ _ _ h => h) (Or.inr ⟨by rfl, rfl⟩) ?_ ?_
      rotate_left
      ·simp only [Act.put, List.setIfInBounds_toArray, List.set_cons_zero, List.set_cons_succ, i64_w, i32_w]
       rfl
      refine pure_ (i := 20) (N := some 30) (v := undef) (a' := ?_) #[true, true, true, true, true, true, true, true, true, true, true, true, true, true, true, true, true, true, true, true, true, false, false] rfl rfl (any_of HT_.out sqk) (fun _ _ _ h => h) (Or.inr ⟨by rfl, rfl⟩) ?_ ?_
      rotate_left
      ·simp only [Act.put, List.setIfInBounds_toArray, List.set_cons_zero, List.set_cons_succ, i64_w, i32_w]
       rfl
      refine pure_ (i := 21) (N := some 31) (v := undef) (a' := ?_) #[true, true, true, true, true, true, true, true, true, true, true, true, true, true, true, true, true, true, true, true, true, true, false] rfl rfl (any_of HT_.out sqk) (fun _ _ _ h => h) (Or.inr ⟨by rfl, rfl⟩) ?_ ?_
      rotate_left
      ·simp only [Act.put, List.setIfInBounds_toArray, List.set_cons_zero, List.set_cons_succ, i64_w, i32_w]
       rfl
      refine pu 22 32 ?_
      refine dn ?_
      try go_wp2
      go_ret
      exact ⟨sqe, sqh⟩
    ·rw [if_neg c3] at H
     exact absurd H (by simp)
   ·rw [if_neg c2] at H
    have c2b0 : decide (x3_1 < (l0.length : Int)) = false := decide_eq_false c2
    clear c2
    obtain rfl := Option.some.inj H
    go_wp2
    go_ret
    exact ⟨sqe, sqh⟩

end Go.Proofs.Ytabpgiebhgkfhaa.XFnIssuers
