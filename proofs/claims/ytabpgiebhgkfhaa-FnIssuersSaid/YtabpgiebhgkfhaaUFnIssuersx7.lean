/- Written by this session's own program (wip/xprint, which runs over the kit's print): what the functions that the law reaches come to, each proved; and the law's row. Conditions: none. -/
import Derived.Test.YtabpgiebhgkfhaaUFnIssuersSq
import Derived.Test.YtabpgiebhgkfhaaUFnIssuersx0
import Derived.Test.YtabpgiebhgkfhaaUFnIssuersx2
import Derived.Test.YtabpgiebhgkfhaaUFnIssuersx6
namespace Go.Proofs.Ytabpgiebhgkfhaa.XFnIssuers
open Go.RowKit Go.Proofs.YtabpgiebhgkfhaaW.PrintWords Go.Proofs.YtabpgiebhgkfhaaW.PrintLast Go.Proofs.YtabpgiebhgkfhaaW.PrintMore Go.Proofs.YtabpgiebhgkfhaaSq
attribute [local go_sem] max2_int min2_int max_two min_two max_three min_three max_four min_four   -- for this text's walks alone
set_option linter.unusedVariables false
set_option linter.unusedSimpArgs false

/-! ### impl_IsStore: function 64 -/
def impl_IsStore.l0 : Nat → List (S55) → List (S55) → Int → Int → Option (Bool)
 | 0, _, _, _, _ => none
 | k + 1, x0, x5, x6, x7 => if x7 < x6 then (if 0 ≤ x7 then (if x7 < (x5.length : Int) then ((impl_IsFact.f ((rd_T55 x5 x7).f0) ((rd_T55 x5 x7).f1) ((rd_T55 x5 x7).f2) ((rd_T55 x5 x7).f3) ((rd_T55 x5 x7).f4) ((rd_T55 x5 x7).f5)).bind fun t191 => (if t191 = true then (if x7 > 0 then (if 0 ≤ (wrap64 (x7 - 1)) then (if (wrap64 (x7 - 1)) < (x0.length : Int) then ((impl_FactBefore.f ((rd_T55 x0 (wrap64 (x7 - 1))).f0) ((rd_T55 x0 (wrap64 (x7 - 1))).f1) ((rd_T55 x0 (wrap64 (x7 - 1))).f2) ((rd_T55 x0 (wrap64 (x7 - 1))).f3) ((rd_T55 x0 (wrap64 (x7 - 1))).f4) ((rd_T55 x0 (wrap64 (x7 - 1))).f5) ((rd_T55 x5 x7).f0) ((rd_T55 x5 x7).f1) ((rd_T55 x5 x7).f2) ((rd_T55 x5 x7).f3) ((rd_T55 x5 x7).f4) ((rd_T55 x5 x7).f5)).bind fun t193 => (if t193 = true then (impl_IsStore.l0 k x0 x5 x6 (wrap64 (x7 + 1))) else (some false))) else (none)) else (none)) else (impl_IsStore.l0 k x0 x5 x6 (wrap64 (x7 + 1)))) else (some false))) else (none)) else (none)) else (some (decide ((x0.length : Int) ≤ 30)))
def impl_IsStore.f (k : Nat) (l0 : List (S55)) : Option (Bool) := impl_IsStore.l0 k l0 l0 (l0.length : Int) 0
def impl_IsStore.T4 : Bool × List (List Nat × List Nat) := (true, [([], []), ([0], [0]), ([1], [1]), ([2, 1], [2]), ([3], [3]), ([4, 3], [3, 4]), ([5, 3, 3], [3, 5]), ([6], [6]), ([6], [6]), ([8, 6], [6, 8]), ([7, 9, 6], [6, 7, 9]), ([10, 6], [6, 10]), ([6], [6]), ([11, 12, 6, 6], [6, 11, 12]), ([13, 6], [6, 13]), ([6, 14, 3], [3, 6, 14]), ([3, 15], [3, 15])])
def impl_IsStore.B4 : List Nat := [0, 1, 3, 7, 15, 31, 63, 127, 127, 383, 1023, 2047, 127, 8191, 16383, 32767, 65535]
theorem impl_IsStore.tab4 : rtab .any (opsOf Try.f64 4) = impl_IsStore.T4 := by kernel_rfl
theorem impl_IsStore.bits4 : waitsOk impl_IsStore.T4.2 impl_IsStore.B4 = true := by kernel_rfl
set_option maxHeartbeats 8000000 in
set_option maxRecDepth 100000 in
theorem impl_IsStore.calls (k : Nat) (A0 : Option Addr) (c0 : Nat) (l0 : List (S55)) (r : Bool) (w : World) (hr0 : Kd.C k55 w A0 l0.length l0) (hc0 : l0.length ≤ c0) (h : impl_IsStore.f k l0 = some r) :
  Calls Try.prog 64 #[.slice A0 l0.length c0] w fun e w' => e = .returned (.bool r) ∧ Below w.heap.size w w' := by
 have hu55 := Try.underlying55
 have HR0 := As_.mk hr0
 have HC0 := As_.mk hc0
 clear hr0 hc0
 have HB := As_.mk (Below.refl w.heap.size w)
 have H : (impl_IsStore.l0 k l0 l0 (l0.length : Int) 0) = some r := h
 clear h
 have H' := As_.mk H
 clear H
 go_enter Try.func64, Try.ntmps64
 go_wp2
 go_loopg [7] k (fun kq v7 w' => ∃ (x7_1 : Int), v7 = .int .i64 x7_1 ∧ As_ (impl_IsStore.l0 kq l0 l0 (l0.length : Int) x7_1 = some r) ∧ As_ (kq ≤ k) ∧ As_ (Below w.heap.size w w'))
 case atStart => exact ⟨(0), sqr, H', ⟨Nat.le_refl _⟩, ⟨sqh⟩⟩
 case round =>
  clear H'
  obtain ⟨x7_1, rfl, HA, HK1, HB⟩ := hrel
  cases gk with
  | zero => exact absurd HA.out (by simp [impl_IsStore.l0])
  | succ k1 =>
   have H := HA.out
   clear HA
   simp only [impl_IsStore.l0] at H
   by_cases c2 : x7_1 < (l0.length : Int)
   ·rw [if_pos c2] at H
    have c2b0 : decide (x7_1 < (l0.length : Int)) = true := decide_eq_true c2
    clear c2
    by_cases c3 : 0 ≤ x7_1
    ·rw [if_pos c3] at H
     have c3b0 : decide (0 ≤ x7_1) = true := decide_eq_true c3
     clear c3
     by_cases c4 : x7_1 < (l0.length : Int)
     ·rw [if_pos c4] at H
      have c4b0 : decide (x7_1 < (l0.length : Int)) = true := decide_eq_true c4
      clear c4
      obtain ⟨t191, A5, H⟩ := bA H
      by_cases c6 : t191 = true
      ·subst c6
       replace H := iT H
       by_cases c7 : x7_1 > 0
       ·rw [if_pos c7] at H
        have c7b0 : decide (0 < x7_1) = true := decide_eq_true c7
        clear c7
        obtain ⟨ji8, hji8⟩ : ∃ j_ : Int, (wrap64 (x7_1 - 1)) = j_ := ⟨_, rfl⟩
        replace H : (if 0 ≤ (ji8) then (if (ji8) < (l0.length : Int) then ((impl_FactBefore.f ((rd_T55 l0 (ji8)).f0) ((rd_T55 l0 (ji8)).f1) ((rd_T55 l0 (ji8)).f2) ((rd_T55 l0 (ji8)).f3) ((rd_T55 l0 (ji8)).f4) ((rd_T55 l0 (ji8)).f5) ((rd_T55 l0 x7_1).f0) ((rd_T55 l0 x7_1).f1) ((rd_T55 l0 x7_1).f2) ((rd_T55 l0 x7_1).f3) ((rd_T55 l0 x7_1).f4) ((rd_T55 l0 x7_1).f5)).bind fun t193 => (if t193 = true then (impl_IsStore.l0 k1 l0 l0 (l0.length : Int) (wrap64 (x7_1 + 1))) else (some false))) else (none)) else (none)) = some r := by first | (rw [hji8] at H; exact H) | (simp only [hji8] at H ⊢; exact H)
        (try rw [hji8] at A5)
        have hji8w : (IntKind.i64.wrap (x7_1 - 1)) = ji8 := (i64_w _).trans hji8
        by_cases c9 : 0 ≤ (ji8)
        ·rw [if_pos c9] at H
         have c9b0 : decide (0 ≤ (ji8)) = true := decide_eq_true c9
         clear c9
         by_cases c10 : (ji8) < (l0.length : Int)
         ·rw [if_pos c10] at H
          have c10b0 : decide ((ji8) < (l0.length : Int)) = true := decide_eq_true c10
          clear c10
          obtain ⟨t193, A11, H⟩ := bA H
          by_cases c12 : t193 = true
          ·subst c12
           replace H := iT H
           have H' := As_.mk H
           clear H
           have p189 : 0 ≤ (x7_1 : Int) := of_decide_eq_true sqs
           have q189 : x7_1 < (l0.length : Int) := of_decide_eq_true sqs
           obtain ⟨ad189, e189, hx189_0, hx189_1, hx189_2, hx189_3, hx189_4, hx189_5⟩ := at_T55 HR0.out x7_1 p189 q189
           cases e189
           replace hx189_0 := cl HB hx189_0; replace hx189_1 := cl HB hx189_1; replace hx189_2 := cl HB hx189_2; replace hx189_3 := cl HB hx189_3; replace hx189_4 := cl HB hx189_4; replace hx189_5 := cl HB hx189_5
           replace p189 := eq_true p189
           replace q189 := eq_true q189
           try go_wp2_with (first | ((with_reducible refine gate_dst (N := 4) rfl ?_); refine bx (N := 4) (cs := #[.int .i64 0, .int .i64 0, .int .i64 0, .int .i64 0, .int .i64 0, .int .i64 0]) (t := 55) ?_; intro gb190 hg w13 hbox hb; have BK190 := As_.mk (hbox); have GW190 := As_.mk ((by rw [hg]; exact (below_size sqh) : w.heap.size ≤ gb190)); have GE190 := As_.mk ((by rw [hg]; exact (below_size sqh) : w.heap.size ≤ gb190)); replace HB := As_.mk (below_step sqh hb); clear hb hbox hg; obtain ⟨hcz14_0, hcz14_1, hcz14_2, hcz14_3, hcz14_4, hcz14_5, hfz14_0, hfz14_1, hfz14_2, hfz14_3, hfz14_4, hfz14_5⟩ := sd6 BK190.out))
           have n0_ : As_ (((((((w13.setCell ⟨gb190, 0, none⟩ (.int .i64 ((rd_T55 l0 x7_1).f0))).setCell ⟨gb190, 1, none⟩ (.int .i64 ((rd_T55 l0 x7_1).f1))).setCell ⟨gb190, 2, none⟩ (.int .i64 ((rd_T55 l0 x7_1).f2))).setCell ⟨gb190, 3, none⟩ (.int .i64 ((rd_T55 l0 x7_1).f3))).setCell ⟨gb190, 4, none⟩ (.int .i64 ((rd_T55 l0 x7_1).f4))).setCell ⟨gb190, 5, none⟩ (.int .i64 ((rd_T55 l0 x7_1).f5))).heap[gb190]? = some (.cells #[.int .i64 ((rd_T55 l0 x7_1).f0), .int .i64 ((rd_T55 l0 x7_1).f1), .int .i64 ((rd_T55 l0 x7_1).f2), .int .i64 ((rd_T55 l0 x7_1).f3), .int .i64 ((rd_T55 l0 x7_1).f4), .int .i64 ((rd_T55 l0 x7_1).f5)] 55 (0, 0))) := ⟨bp BK190⟩
           have n1_ : As_ (Below w.heap.size w ((((((w13.setCell ⟨gb190, 0, none⟩ (.int .i64 ((rd_T55 l0 x7_1).f0))).setCell ⟨gb190, 1, none⟩ (.int .i64 ((rd_T55 l0 x7_1).f1))).setCell ⟨gb190, 2, none⟩ (.int .i64 ((rd_T55 l0 x7_1).f2))).setCell ⟨gb190, 3, none⟩ (.int .i64 ((rd_T55 l0 x7_1).f3))).setCell ⟨gb190, 4, none⟩ (.int .i64 ((rd_T55 l0 x7_1).f4))).setCell ⟨gb190, 5, none⟩ (.int .i64 ((rd_T55 l0 x7_1).f5)))) := ⟨sqh⟩
           (try clear BK190)
           (try clear HB)
           generalize ((((((w13.setCell ⟨gb190, 0, none⟩ (.int .i64 ((rd_T55 l0 x7_1).f0))).setCell ⟨gb190, 1, none⟩ (.int .i64 ((rd_T55 l0 x7_1).f1))).setCell ⟨gb190, 2, none⟩ (.int .i64 ((rd_T55 l0 x7_1).f2))).setCell ⟨gb190, 3, none⟩ (.int .i64 ((rd_T55 l0 x7_1).f3))).setCell ⟨gb190, 4, none⟩ (.int .i64 ((rd_T55 l0 x7_1).f4))).setCell ⟨gb190, 5, none⟩ (.int .i64 ((rd_T55 l0 x7_1).f5))) = w15 at n0_ n1_ ⊢
           have BK190 := n0_
           have HB := n1_
           clear n0_ n1_
           replace BK190 := As_.mk (blk_drew BK190.out)
           replace HB := As_.mk (bD_ HB.out)
           have p192 : 0 ≤ ((ji8) : Int) := of_decide_eq_true sqs
           have q192 : (ji8) < (l0.length : Int) := of_decide_eq_true sqs
           obtain ⟨ad192, e192, hx192_0, hx192_1, hx192_2, hx192_3, hx192_4, hx192_5⟩ := at_T55 HR0.out (ji8) p192 q192
           have hw192_5 := hx192_5; have hw192_4 := hx192_4; have hw192_3 := hx192_3; have hw192_2 := hx192_2; have hw192_1 := hx192_1; have hw192_0 := hx192_0
           obtain rfl : ad189 = ad192 := (by injection e192)
           replace hx192_0 := cl HB hx192_0; replace hx192_1 := cl HB hx192_1; replace hx192_2 := cl HB hx192_2; replace hx192_3 := cl HB hx192_3; replace hx192_4 := cl HB hx192_4; replace hx192_5 := cl HB hx192_5
           replace p192 := eq_true p192
           replace q192 := eq_true q192
           refine start_ (n := 17) (S := fun w' => w'.cell? ⟨gb190, 0, none⟩ = some (.int .i64 ((rd_T55 l0 x7_1).f0)) ∧ w'.cell? ⟨gb190, 1, none⟩ = some (.int .i64 ((rd_T55 l0 x7_1).f1)) ∧ w'.cell? ⟨gb190, 2, none⟩ = some (.int .i64 ((rd_T55 l0 x7_1).f2)) ∧ w'.cell? ⟨gb190, 3, none⟩ = some (.int .i64 ((rd_T55 l0 x7_1).f3)) ∧ w'.cell? ⟨gb190, 4, none⟩ = some (.int .i64 ((rd_T55 l0 x7_1).f4)) ∧ w'.cell? ⟨gb190, 5, none⟩ = some (.int .i64 ((rd_T55 l0 x7_1).f5)) ∧ w'.cell? (ad189.add (((ji8)).toNat * 6)) = some (.int .i64 ((rd_T55 l0 (ji8)).f0)) ∧ w'.cell? ⟨(ad189.add (((ji8)).toNat * 6)).block, (ad189.add (((ji8)).toNat * 6)).off + 1, none⟩ = some (.int .i64 ((rd_T55 l0 (ji8)).f1)) ∧ w'.cell? ⟨(ad189.add (((ji8)).toNat * 6)).block, (ad189.add (((ji8)).toNat * 6)).off + 2, none⟩ = some (.int .i64 ((rd_T55 l0 (ji8)).f2)) ∧ w'.cell? ⟨(ad189.add (((ji8)).toNat * 6)).block, (ad189.add (((ji8)).toNat * 6)).off + 3, none⟩ = some (.int .i64 ((rd_T55 l0 (ji8)).f3)) ∧ w'.cell? ⟨(ad189.add (((ji8)).toNat * 6)).block, (ad189.add (((ji8)).toNat * 6)).off + 4, none⟩ = some (.int .i64 ((rd_T55 l0 (ji8)).f4)) ∧ w'.cell? ⟨(ad189.add (((ji8)).toNat * 6)).block, (ad189.add (((ji8)).toNat * 6)).off + 5, none⟩ = some (.int .i64 ((rd_T55 l0 (ji8)).f5))) (ds := []) #[false, false, false, false, false, false, false, false, false, false, false, false, false, false, false, false, false] sqk rfl rfl (sa6 BK190.out ⟨(cl HB hw192_0), (cl HB hw192_1), (cl HB hw192_2), (cl HB hw192_3), (cl HB hw192_4), (cl HB hw192_5)⟩) (fun hHeld => ?_); refine with_tabW impl_IsStore.tab4 impl_IsStore.bits4 (fun HT_ HW_ => ?_)
           generalize w15.drew = w16 at BK190 HB hx192_0 hx192_1 hx192_2 hx192_3 hx192_4 hx192_5 hHeld ⊢
           refine ta 0 12 ?_
           refine on 1 (some 13) (fun K hK => ?_)
           refine goes_ Try.func61 sqk rfl #[.agg #[.int .i64 ((rd_T55 l0 x7_1).f0), .int .i64 ((rd_T55 l0 x7_1).f1), .int .i64 ((rd_T55 l0 x7_1).f2), .int .i64 ((rd_T55 l0 x7_1).f3), .int .i64 ((rd_T55 l0 x7_1).f4), .int .i64 ((rd_T55 l0 x7_1).f5)]] (by rfl) rfl rfl sqm ?_
           with_reducible refine (impl_IsFact.calls ((rd_T55 l0 x7_1).f0) ((rd_T55 l0 x7_1).f1) ((rd_T55 l0 x7_1).f2) ((rd_T55 l0 x7_1).f3) ((rd_T55 l0 x7_1).f4) ((rd_T55 l0 x7_1).f5) true _ A5.out).mono ?_
           rintro e w17 ⟨rfl, hb⟩
           refine ⟨_, rfl, ?_⟩
           replace BK190 := As_.mk (blk_below (bo BK190) hb)
           replace HB := As_.mk (below_step sqh hb)
           (try clear hb)
           (try clear hb2)
           (try clear hk)
           (try clear hi)
           refine hK.out _ _ (sa6 BK190.out ⟨(cl HB hw192_0), (cl HB hw192_1), (cl HB hw192_2), (cl HB hw192_3), (cl HB hw192_4), (cl HB hw192_5)⟩) (fun hHeld => ?_)
           clear hK K; refine no 13 ?_; refine pu 2 14 ?_; refine pu 3 15 ?_; refine pu 4 16 ?_; refine pu 5 17 ?_; refine pu 6 18 ?_; refine pu 7 19 ?_; refine pu 8 20 ?_; refine pu 9 21 ?_; refine pu 10 22 ?_; refine ta 11 23 ?_; refine ta 12 24 ?_
           refine on 13 (some 25) (fun K hK => ?_)
           refine goes_ Try.func106 sqk rfl #[.agg #[.int .i64 ((rd_T55 l0 (ji8)).f0), .int .i64 ((rd_T55 l0 (ji8)).f1), .int .i64 ((rd_T55 l0 (ji8)).f2), .int .i64 ((rd_T55 l0 (ji8)).f3), .int .i64 ((rd_T55 l0 (ji8)).f4), .int .i64 ((rd_T55 l0 (ji8)).f5)], .agg #[.int .i64 ((rd_T55 l0 x7_1).f0), .int .i64 ((rd_T55 l0 x7_1).f1), .int .i64 ((rd_T55 l0 x7_1).f2), .int .i64 ((rd_T55 l0 x7_1).f3), .int .i64 ((rd_T55 l0 x7_1).f4), .int .i64 ((rd_T55 l0 x7_1).f5)]] (by rfl) rfl rfl (by (try simp only [List.map_toArray, List.map_cons, List.map_nil]); first | done | (simp only [hji8]; rfl) | rfl | (simp only [List.length_drop, List.length_take]; rfl)) ?_
           with_reducible refine (impl_FactBefore.calls ((rd_T55 l0 (ji8)).f0) ((rd_T55 l0 (ji8)).f1) ((rd_T55 l0 (ji8)).f2) ((rd_T55 l0 (ji8)).f3) ((rd_T55 l0 (ji8)).f4) ((rd_T55 l0 (ji8)).f5) ((rd_T55 l0 x7_1).f0) ((rd_T55 l0 x7_1).f1) ((rd_T55 l0 x7_1).f2) ((rd_T55 l0 x7_1).f3) ((rd_T55 l0 x7_1).f4) ((rd_T55 l0 x7_1).f5) true _ A11.out).mono ?_
           rintro e w18 ⟨rfl, hb⟩
           refine ⟨_, rfl, ?_⟩
           replace BK190 := As_.mk (blk_below (bo BK190) hb)
           replace HB := As_.mk (below_step sqh hb)
           (try clear hb)
           (try clear hb2)
           (try clear hk)
           (try clear hi)
           refine hK.out _ _ (sa6 BK190.out ⟨(cl HB hw192_0), (cl HB hw192_1), (cl HB hw192_2), (cl HB hw192_3), (cl HB hw192_4), (cl HB hw192_5)⟩) (fun hHeld => ?_)
           clear hK K; refine no 25 ?_; refine pu 14 26 ?_; refine pu 15 27 ?_; refine pu 16 28 ?_
           refine dn ?_
           try go_wp2
           go_roundg k1
           case measure => have := HK1.out; omega
           case rel => exact ⟨(wrap64 (x7_1 + 1)), sqr, H', ⟨by have := HK1.out; omega⟩, ⟨sqh⟩⟩
          ·replace c12 := Bool.eq_false_iff.mpr c12
           subst c12
           replace H := iF H
           obtain rfl := Option.some.inj H
           have p189 : 0 ≤ (x7_1 : Int) := of_decide_eq_true sqs
           have q189 : x7_1 < (l0.length : Int) := of_decide_eq_true sqs
           obtain ⟨ad189, e189, hx189_0, hx189_1, hx189_2, hx189_3, hx189_4, hx189_5⟩ := at_T55 HR0.out x7_1 p189 q189
           cases e189
           replace hx189_0 := cl HB hx189_0; replace hx189_1 := cl HB hx189_1; replace hx189_2 := cl HB hx189_2; replace hx189_3 := cl HB hx189_3; replace hx189_4 := cl HB hx189_4; replace hx189_5 := cl HB hx189_5
           replace p189 := eq_true p189
           replace q189 := eq_true q189
           try go_wp2_with (first | ((with_reducible refine gate_dst (N := 4) rfl ?_); refine bx (N := 4) (cs := #[.int .i64 0, .int .i64 0, .int .i64 0, .int .i64 0, .int .i64 0, .int .i64 0]) (t := 55) ?_; intro gb190 hg w19 hbox hb; have BK190 := As_.mk (hbox); have GW190 := As_.mk ((by rw [hg]; exact (below_size sqh) : w.heap.size ≤ gb190)); have GE190 := As_.mk ((by rw [hg]; exact (below_size sqh) : w.heap.size ≤ gb190)); replace HB := As_.mk (below_step sqh hb); clear hb hbox hg; obtain ⟨hcz20_0, hcz20_1, hcz20_2, hcz20_3, hcz20_4, hcz20_5, hfz20_0, hfz20_1, hfz20_2, hfz20_3, hfz20_4, hfz20_5⟩ := sd6 BK190.out))
           have n0_ : As_ (((((((w19.setCell ⟨gb190, 0, none⟩ (.int .i64 ((rd_T55 l0 x7_1).f0))).setCell ⟨gb190, 1, none⟩ (.int .i64 ((rd_T55 l0 x7_1).f1))).setCell ⟨gb190, 2, none⟩ (.int .i64 ((rd_T55 l0 x7_1).f2))).setCell ⟨gb190, 3, none⟩ (.int .i64 ((rd_T55 l0 x7_1).f3))).setCell ⟨gb190, 4, none⟩ (.int .i64 ((rd_T55 l0 x7_1).f4))).setCell ⟨gb190, 5, none⟩ (.int .i64 ((rd_T55 l0 x7_1).f5))).heap[gb190]? = some (.cells #[.int .i64 ((rd_T55 l0 x7_1).f0), .int .i64 ((rd_T55 l0 x7_1).f1), .int .i64 ((rd_T55 l0 x7_1).f2), .int .i64 ((rd_T55 l0 x7_1).f3), .int .i64 ((rd_T55 l0 x7_1).f4), .int .i64 ((rd_T55 l0 x7_1).f5)] 55 (0, 0))) := ⟨bp BK190⟩
           have n1_ : As_ (Below w.heap.size w ((((((w19.setCell ⟨gb190, 0, none⟩ (.int .i64 ((rd_T55 l0 x7_1).f0))).setCell ⟨gb190, 1, none⟩ (.int .i64 ((rd_T55 l0 x7_1).f1))).setCell ⟨gb190, 2, none⟩ (.int .i64 ((rd_T55 l0 x7_1).f2))).setCell ⟨gb190, 3, none⟩ (.int .i64 ((rd_T55 l0 x7_1).f3))).setCell ⟨gb190, 4, none⟩ (.int .i64 ((rd_T55 l0 x7_1).f4))).setCell ⟨gb190, 5, none⟩ (.int .i64 ((rd_T55 l0 x7_1).f5)))) := ⟨sqh⟩
           (try clear BK190)
           (try clear HB)
           generalize ((((((w19.setCell ⟨gb190, 0, none⟩ (.int .i64 ((rd_T55 l0 x7_1).f0))).setCell ⟨gb190, 1, none⟩ (.int .i64 ((rd_T55 l0 x7_1).f1))).setCell ⟨gb190, 2, none⟩ (.int .i64 ((rd_T55 l0 x7_1).f2))).setCell ⟨gb190, 3, none⟩ (.int .i64 ((rd_T55 l0 x7_1).f3))).setCell ⟨gb190, 4, none⟩ (.int .i64 ((rd_T55 l0 x7_1).f4))).setCell ⟨gb190, 5, none⟩ (.int .i64 ((rd_T55 l0 x7_1).f5))) = w21 at n0_ n1_ ⊢
           have BK190 := n0_
           have HB := n1_
           clear n0_ n1_
           replace BK190 := As_.mk (blk_drew BK190.out)
           replace HB := As_.mk (bD_ HB.out)
           have p192 : 0 ≤ ((ji8) : Int) := of_decide_eq_true sqs
           have q192 : (ji8) < (l0.length : Int) := of_decide_eq_true sqs
           obtain ⟨ad192, e192, hx192_0, hx192_1, hx192_2, hx192_3, hx192_4, hx192_5⟩ := at_T55 HR0.out (ji8) p192 q192
           have hw192_5 := hx192_5; have hw192_4 := hx192_4; have hw192_3 := hx192_3; have hw192_2 := hx192_2; have hw192_1 := hx192_1; have hw192_0 := hx192_0
           obtain rfl : ad189 = ad192 := (by injection e192)
           replace hx192_0 := cl HB hx192_0; replace hx192_1 := cl HB hx192_1; replace hx192_2 := cl HB hx192_2; replace hx192_3 := cl HB hx192_3; replace hx192_4 := cl HB hx192_4; replace hx192_5 := cl HB hx192_5
           replace p192 := eq_true p192
           replace q192 := eq_true q192
           refine start_ (n := 17) (S := fun w' => w'.cell? ⟨gb190, 0, none⟩ = some (.int .i64 ((rd_T55 l0 x7_1).f0)) ∧ w'.cell? ⟨gb190, 1, none⟩ = some (.int .i64 ((rd_T55 l0 x7_1).f1)) ∧ w'.cell? ⟨gb190, 2, none⟩ = some (.int .i64 ((rd_T55 l0 x7_1).f2)) ∧ w'.cell? ⟨gb190, 3, none⟩ = some (.int .i64 ((rd_T55 l0 x7_1).f3)) ∧ w'.cell? ⟨gb190, 4, none⟩ = some (.int .i64 ((rd_T55 l0 x7_1).f4)) ∧ w'.cell? ⟨gb190, 5, none⟩ = some (.int .i64 ((rd_T55 l0 x7_1).f5)) ∧ w'.cell? (ad189.add (((ji8)).toNat * 6)) = some (.int .i64 ((rd_T55 l0 (ji8)).f0)) ∧ w'.cell? ⟨(ad189.add (((ji8)).toNat * 6)).block, (ad189.add (((ji8)).toNat * 6)).off + 1, none⟩ = some (.int .i64 ((rd_T55 l0 (ji8)).f1)) ∧ w'.cell? ⟨(ad189.add (((ji8)).toNat * 6)).block, (ad189.add (((ji8)).toNat * 6)).off + 2, none⟩ = some (.int .i64 ((rd_T55 l0 (ji8)).f2)) ∧ w'.cell? ⟨(ad189.add (((ji8)).toNat * 6)).block, (ad189.add (((ji8)).toNat * 6)).off + 3, none⟩ = some (.int .i64 ((rd_T55 l0 (ji8)).f3)) ∧ w'.cell? ⟨(ad189.add (((ji8)).toNat * 6)).block, (ad189.add (((ji8)).toNat * 6)).off + 4, none⟩ = some (.int .i64 ((rd_T55 l0 (ji8)).f4)) ∧ w'.cell? ⟨(ad189.add (((ji8)).toNat * 6)).block, (ad189.add (((ji8)).toNat * 6)).off + 5, none⟩ = some (.int .i64 ((rd_T55 l0 (ji8)).f5))) (ds := []) #[false, false, false, false, false, false, false, false, false, false, false, false, false, false, false, false, false] sqk rfl rfl (sa6 BK190.out ⟨(cl HB hw192_0), (cl HB hw192_1), (cl HB hw192_2), (cl HB hw192_3), (cl HB hw192_4), (cl HB hw192_5)⟩) (fun hHeld => ?_); refine with_tabW impl_IsStore.tab4 impl_IsStore.bits4 (fun HT_ HW_ => ?_)
           generalize w21.drew = w22 at BK190 HB hx192_0 hx192_1 hx192_2 hx192_3 hx192_4 hx192_5 hHeld ⊢
           refine ta 0 12 ?_
           refine on 1 (some 13) (fun K hK => ?_)
           refine goes_ Try.func61 sqk rfl #[.agg #[.int .i64 ((rd_T55 l0 x7_1).f0), .int .i64 ((rd_T55 l0 x7_1).f1), .int .i64 ((rd_T55 l0 x7_1).f2), .int .i64 ((rd_T55 l0 x7_1).f3), .int .i64 ((rd_T55 l0 x7_1).f4), .int .i64 ((rd_T55 l0 x7_1).f5)]] (by rfl) rfl rfl sqm ?_
           with_reducible refine (impl_IsFact.calls ((rd_T55 l0 x7_1).f0) ((rd_T55 l0 x7_1).f1) ((rd_T55 l0 x7_1).f2) ((rd_T55 l0 x7_1).f3) ((rd_T55 l0 x7_1).f4) ((rd_T55 l0 x7_1).f5) true _ A5.out).mono ?_
           rintro e w23 ⟨rfl, hb⟩
           refine ⟨_, rfl, ?_⟩
           replace BK190 := As_.mk (blk_below (bo BK190) hb)
           replace HB := As_.mk (below_step sqh hb)
           (try clear hb)
           (try clear hb2)
           (try clear hk)
           (try clear hi)
           refine hK.out _ _ (sa6 BK190.out ⟨(cl HB hw192_0), (cl HB hw192_1), (cl HB hw192_2), (cl HB hw192_3), (cl HB hw192_4), (cl HB hw192_5)⟩) (fun hHeld => ?_)
           clear hK K; refine no 13 ?_; refine pu 2 14 ?_; refine pu 3 15 ?_; refine pu 4 16 ?_; refine pu 5 17 ?_; refine pu 6 18 ?_; refine pu 7 19 ?_; refine pu 8 20 ?_; refine pu 9 21 ?_; refine pu 10 22 ?_; refine ta 11 23 ?_; refine ta 12 24 ?_
           refine on 13 (some 25) (fun K hK => ?_)
           refine goes_ Try.func106 sqk rfl #[.agg #[.int .i64 ((rd_T55 l0 (ji8)).f0), .int .i64 ((rd_T55 l0 (ji8)).f1), .int .i64 ((rd_T55 l0 (ji8)).f2), .int .i64 ((rd_T55 l0 (ji8)).f3), .int .i64 ((rd_T55 l0 (ji8)).f4), .int .i64 ((rd_T55 l0 (ji8)).f5)], .agg #[.int .i64 ((rd_T55 l0 x7_1).f0), .int .i64 ((rd_T55 l0 x7_1).f1), .int .i64 ((rd_T55 l0 x7_1).f2), .int .i64 ((rd_T55 l0 x7_1).f3), .int .i64 ((rd_T55 l0 x7_1).f4), .int .i64 ((rd_T55 l0 x7_1).f5)]] (by rfl) rfl rfl (by (try simp only [List.map_toArray, List.map_cons, List.map_nil]); first | done | (simp only [hji8]; rfl) | rfl | (simp only [List.length_drop, List.length_take]; rfl)) ?_
           with_reducible refine (impl_FactBefore.calls ((rd_T55 l0 (ji8)).f0) ((rd_T55 l0 (ji8)).f1) ((rd_T55 l0 (ji8)).f2) ((rd_T55 l0 (ji8)).f3) ((rd_T55 l0 (ji8)).f4) ((rd_T55 l0 (ji8)).f5) ((rd_T55 l0 x7_1).f0) ((rd_T55 l0 x7_1).f1) ((rd_T55 l0 x7_1).f2) ((rd_T55 l0 x7_1).f3) ((rd_T55 l0 x7_1).f4) ((rd_T55 l0 x7_1).f5) false _ A11.out).mono ?_
           rintro e w24 ⟨rfl, hb⟩
           refine ⟨_, rfl, ?_⟩
           replace BK190 := As_.mk (blk_below (bo BK190) hb)
           replace HB := As_.mk (below_step sqh hb)
           (try clear hb)
           (try clear hb2)
           (try clear hk)
           (try clear hi)
           refine hK.out _ _ (sa6 BK190.out ⟨(cl HB hw192_0), (cl HB hw192_1), (cl HB hw192_2), (cl HB hw192_3), (cl HB hw192_4), (cl HB hw192_5)⟩) (fun hHeld => ?_)
           clear hK K; refine no 25 ?_; refine pu 14 26 ?_; refine pu 15 27 ?_; refine pu 16 28 ?_
           refine dn ?_
           try go_wp2
           go_ret
           exact ⟨by first | rfl | (simp [errW_none, errW_some] <;> rfl) | (simp only [← hji8]; first | rfl | (simp [errW_none, errW_some] <;> rfl)) | (simp [*, errW_none, errW_some] <;> rfl), sqh⟩
         ·rw [if_neg c10] at H
          exact absurd H (by simp)
        ·rw [if_neg c9] at H
         exact absurd H (by simp)
       ·rw [if_neg c7] at H
        have c7b0 : decide (0 < x7_1) = false := decide_eq_false c7
        clear c7
        have H' := As_.mk H
        clear H
        have p189 : 0 ≤ (x7_1 : Int) := of_decide_eq_true sqs
        have q189 : x7_1 < (l0.length : Int) := of_decide_eq_true sqs
        obtain ⟨ad189, e189, hx189_0, hx189_1, hx189_2, hx189_3, hx189_4, hx189_5⟩ := at_T55 HR0.out x7_1 p189 q189
        cases e189
        replace hx189_0 := cl HB hx189_0; replace hx189_1 := cl HB hx189_1; replace hx189_2 := cl HB hx189_2; replace hx189_3 := cl HB hx189_3; replace hx189_4 := cl HB hx189_4; replace hx189_5 := cl HB hx189_5
        replace p189 := eq_true p189
        replace q189 := eq_true q189
        try go_wp2_with (first | ((with_reducible refine gate_dst (N := 4) rfl ?_); refine bx (N := 4) (cs := #[.int .i64 0, .int .i64 0, .int .i64 0, .int .i64 0, .int .i64 0, .int .i64 0]) (t := 55) ?_; intro gb190 hg w25 hbox hb; have BK190 := As_.mk (hbox); have GW190 := As_.mk ((by rw [hg]; exact (below_size sqh) : w.heap.size ≤ gb190)); have GE190 := As_.mk ((by rw [hg]; exact (below_size sqh) : w.heap.size ≤ gb190)); replace HB := As_.mk (below_step sqh hb); clear hb hbox hg; obtain ⟨hcz26_0, hcz26_1, hcz26_2, hcz26_3, hcz26_4, hcz26_5, hfz26_0, hfz26_1, hfz26_2, hfz26_3, hfz26_4, hfz26_5⟩ := sd6 BK190.out))
        have n0_ : As_ (((((((w25.setCell ⟨gb190, 0, none⟩ (.int .i64 ((rd_T55 l0 x7_1).f0))).setCell ⟨gb190, 1, none⟩ (.int .i64 ((rd_T55 l0 x7_1).f1))).setCell ⟨gb190, 2, none⟩ (.int .i64 ((rd_T55 l0 x7_1).f2))).setCell ⟨gb190, 3, none⟩ (.int .i64 ((rd_T55 l0 x7_1).f3))).setCell ⟨gb190, 4, none⟩ (.int .i64 ((rd_T55 l0 x7_1).f4))).setCell ⟨gb190, 5, none⟩ (.int .i64 ((rd_T55 l0 x7_1).f5))).heap[gb190]? = some (.cells #[.int .i64 ((rd_T55 l0 x7_1).f0), .int .i64 ((rd_T55 l0 x7_1).f1), .int .i64 ((rd_T55 l0 x7_1).f2), .int .i64 ((rd_T55 l0 x7_1).f3), .int .i64 ((rd_T55 l0 x7_1).f4), .int .i64 ((rd_T55 l0 x7_1).f5)] 55 (0, 0))) := ⟨bp BK190⟩
        have n1_ : As_ (Below w.heap.size w ((((((w25.setCell ⟨gb190, 0, none⟩ (.int .i64 ((rd_T55 l0 x7_1).f0))).setCell ⟨gb190, 1, none⟩ (.int .i64 ((rd_T55 l0 x7_1).f1))).setCell ⟨gb190, 2, none⟩ (.int .i64 ((rd_T55 l0 x7_1).f2))).setCell ⟨gb190, 3, none⟩ (.int .i64 ((rd_T55 l0 x7_1).f3))).setCell ⟨gb190, 4, none⟩ (.int .i64 ((rd_T55 l0 x7_1).f4))).setCell ⟨gb190, 5, none⟩ (.int .i64 ((rd_T55 l0 x7_1).f5)))) := ⟨sqh⟩
        (try clear BK190)
        (try clear HB)
        generalize ((((((w25.setCell ⟨gb190, 0, none⟩ (.int .i64 ((rd_T55 l0 x7_1).f0))).setCell ⟨gb190, 1, none⟩ (.int .i64 ((rd_T55 l0 x7_1).f1))).setCell ⟨gb190, 2, none⟩ (.int .i64 ((rd_T55 l0 x7_1).f2))).setCell ⟨gb190, 3, none⟩ (.int .i64 ((rd_T55 l0 x7_1).f3))).setCell ⟨gb190, 4, none⟩ (.int .i64 ((rd_T55 l0 x7_1).f4))).setCell ⟨gb190, 5, none⟩ (.int .i64 ((rd_T55 l0 x7_1).f5))) = w27 at n0_ n1_ ⊢
        have BK190 := n0_
        have HB := n1_
        clear n0_ n1_
        replace BK190 := As_.mk (blk_drew BK190.out)
        replace HB := As_.mk (bD_ HB.out)
        refine start_ (n := 17) (S := fun w' => w'.cell? ⟨gb190, 0, none⟩ = some (.int .i64 ((rd_T55 l0 x7_1).f0)) ∧ w'.cell? ⟨gb190, 1, none⟩ = some (.int .i64 ((rd_T55 l0 x7_1).f1)) ∧ w'.cell? ⟨gb190, 2, none⟩ = some (.int .i64 ((rd_T55 l0 x7_1).f2)) ∧ w'.cell? ⟨gb190, 3, none⟩ = some (.int .i64 ((rd_T55 l0 x7_1).f3)) ∧ w'.cell? ⟨gb190, 4, none⟩ = some (.int .i64 ((rd_T55 l0 x7_1).f4)) ∧ w'.cell? ⟨gb190, 5, none⟩ = some (.int .i64 ((rd_T55 l0 x7_1).f5))) (ds := []) #[false, false, false, false, false, false, false, false, false, false, false, false, false, false, false, false, false] sqk rfl rfl (sc6 BK190.out) (fun hHeld => ?_); refine with_tabW impl_IsStore.tab4 impl_IsStore.bits4 (fun HT_ HW_ => ?_)
        generalize w27.drew = w28 at BK190 HB hHeld ⊢
        refine ta 0 12 ?_
        refine on 1 (some 13) (fun K hK => ?_)
        refine goes_ Try.func61 sqk rfl #[.agg #[.int .i64 ((rd_T55 l0 x7_1).f0), .int .i64 ((rd_T55 l0 x7_1).f1), .int .i64 ((rd_T55 l0 x7_1).f2), .int .i64 ((rd_T55 l0 x7_1).f3), .int .i64 ((rd_T55 l0 x7_1).f4), .int .i64 ((rd_T55 l0 x7_1).f5)]] (by rfl) rfl rfl sqm ?_
        with_reducible refine (impl_IsFact.calls ((rd_T55 l0 x7_1).f0) ((rd_T55 l0 x7_1).f1) ((rd_T55 l0 x7_1).f2) ((rd_T55 l0 x7_1).f3) ((rd_T55 l0 x7_1).f4) ((rd_T55 l0 x7_1).f5) true _ A5.out).mono ?_
        rintro e w29 ⟨rfl, hb⟩
        refine ⟨_, rfl, ?_⟩
        replace BK190 := As_.mk (blk_below (bo BK190) hb)
        replace HB := As_.mk (below_step sqh hb)
        (try clear hb)
        (try clear hb2)
        (try clear hk)
        (try clear hi)
        refine hK.out _ _ (sc6 BK190.out) (fun hHeld => ?_)
        clear hK K; refine no 13 ?_; refine pu 2 14 ?_; refine pu 3 15 ?_; refine pu 4 16 ?_; refine pu 5 17 ?_; refine pu 6 18 ?_
        refine pure_ (i := 7) (N := some 19) (v := undef) (a' := ?_) #[true, true, true, true, true, true, true, true, false, false, false, false, false, false, false, false, false] rfl rfl (any_of HT_.out sqk) (fun _ _ _ h => h) (Or.inr ⟨by rfl, rfl⟩) ?_ ?_
        rotate_left
        ·simp only [Act.put, List.setIfInBounds_toArray, List.set_cons_zero, List.set_cons_succ, i64_w, i32_w]
         rfl
        refine pure_ (i := 8) (N := some 20) (v := undef) (a' := ?_) #[true, true, true, true, true, true, true, true, true, false, false, false, false, false, false, false, false] rfl rfl (any_of HT_.out sqk) (fun _ _ _ h => h) (Or.inr ⟨by rfl, rfl⟩) ?_ ?_
        rotate_left
        ·simp only [Act.put, List.setIfInBounds_toArray, List.set_cons_zero, List.set_cons_succ, i64_w, i32_w]
         rfl
        refine pure_ (i := 9) (N := some 21) (v := undef) (a' := ?_) #[true, true, true, true, true, true, true, true, true, true, false, false, false, false, false, false, false] rfl rfl (any_of HT_.out sqk) (fun _ _ _ h => h) (Or.inr ⟨by rfl, rfl⟩) ?_ ?_
        rotate_left
        ·simp only [Act.put, List.setIfInBounds_toArray, List.set_cons_zero, List.set_cons_succ, i64_w, i32_w]
         rfl
        refine pure_ (i := 10) (N := some 22) (v := undef) (a' := ?_) #[true, true, true, true, true, true, true, true, true, true, true, false, false, false, false, false, false] rfl rfl (any_of HT_.out sqk) (fun _ _ _ h => h) (Or.inr ⟨by rfl, rfl⟩) ?_ ?_
        rotate_left
        ·simp only [Act.put, List.setIfInBounds_toArray, List.set_cons_zero, List.set_cons_succ, i64_w, i32_w]
         rfl
        refine pure_ (i := 11) (N := some 23) (v := undef) (a' := ?_) #[true, true, true, true, true, true, true, true, true, true, true, true, false, false, false, false, false] rfl rfl (any_of HT_.out sqk) (fun _ _ _ h => h) (Or.inr ⟨by rfl, rfl⟩) ?_ ?_
        rotate_left
        ·simp only [Act.put, List.setIfInBounds_toArray, List.set_cons_zero, List.set_cons_succ, i64_w, i32_w]
         rfl
        refine pure_ (i := 12) (N := some 24) (v := undef) (a' := ?_) #[true, true, true, true, true, true, true, true, true, true, true, true, true, false, false, false, false] rfl rfl (any_of HT_.out sqk) (fun _ _ _ h => h) (Or.inr ⟨by rfl, rfl⟩) ?_ ?_
        rotate_left
        ·simp only [Act.put, List.setIfInBounds_toArray, List.set_cons_zero, List.set_cons_succ, i64_w, i32_w]
         rfl
        refine pure_ (i := 13) (N := some 25) (v := undef) (a' := ?_) #[true, true, true, true, true, true, true, true, true, true, true, true, true, true, false, false, false] rfl rfl (any_of HT_.out sqk) (fun _ _ _ h => h) (Or.inr ⟨by rfl, rfl⟩) ?_ ?_
        rotate_left
        ·simp only [Act.put, List.setIfInBounds_toArray, List.set_cons_zero, List.set_cons_succ, i64_w, i32_w]
         rfl
        refine pure_ (i := 14) (N := some 26) (v := undef) (a' := ?_) #[true, true, true, true, true, true, true, true, true, true, true, true, true, true, true, false, false] rfl rfl (any_of HT_.out sqk) (fun _ _ _ h => h) (Or.inr ⟨by rfl, rfl⟩) ?_ ?_
        rotate_left
        ·simp only [Act.put, List.setIfInBounds_toArray, List.set_cons_zero, List.set_cons_succ, i64_w, i32_w]
         rfl
        refine pu 15 27 ?_; refine pu 16 28 ?_
        refine dn ?_
        try go_wp2
        go_roundg k1
        case measure => have := HK1.out; omega
        case rel => exact ⟨(wrap64 (x7_1 + 1)), sqr, H', ⟨by have := HK1.out; omega⟩, ⟨sqh⟩⟩
      ·replace c6 := Bool.eq_false_iff.mpr c6
       subst c6
       replace H := iF H
       obtain rfl := Option.some.inj H
       have p189 : 0 ≤ (x7_1 : Int) := of_decide_eq_true sqs
       have q189 : x7_1 < (l0.length : Int) := of_decide_eq_true sqs
       obtain ⟨ad189, e189, hx189_0, hx189_1, hx189_2, hx189_3, hx189_4, hx189_5⟩ := at_T55 HR0.out x7_1 p189 q189
       cases e189
       replace hx189_0 := cl HB hx189_0; replace hx189_1 := cl HB hx189_1; replace hx189_2 := cl HB hx189_2; replace hx189_3 := cl HB hx189_3; replace hx189_4 := cl HB hx189_4; replace hx189_5 := cl HB hx189_5
       replace p189 := eq_true p189
       replace q189 := eq_true q189
       try go_wp2_with (first | ((with_reducible refine gate_dst (N := 4) rfl ?_); refine bx (N := 4) (cs := #[.int .i64 0, .int .i64 0, .int .i64 0, .int .i64 0, .int .i64 0, .int .i64 0]) (t := 55) ?_; intro gb190 hg w30 hbox hb; have BK190 := As_.mk (hbox); have GW190 := As_.mk ((by rw [hg]; exact (below_size sqh) : w.heap.size ≤ gb190)); have GE190 := As_.mk ((by rw [hg]; exact (below_size sqh) : w.heap.size ≤ gb190)); replace HB := As_.mk (below_step sqh hb); clear hb hbox hg; obtain ⟨hcz31_0, hcz31_1, hcz31_2, hcz31_3, hcz31_4, hcz31_5, hfz31_0, hfz31_1, hfz31_2, hfz31_3, hfz31_4, hfz31_5⟩ := sd6 BK190.out))
       have n0_ : As_ (((((((w30.setCell ⟨gb190, 0, none⟩ (.int .i64 ((rd_T55 l0 x7_1).f0))).setCell ⟨gb190, 1, none⟩ (.int .i64 ((rd_T55 l0 x7_1).f1))).setCell ⟨gb190, 2, none⟩ (.int .i64 ((rd_T55 l0 x7_1).f2))).setCell ⟨gb190, 3, none⟩ (.int .i64 ((rd_T55 l0 x7_1).f3))).setCell ⟨gb190, 4, none⟩ (.int .i64 ((rd_T55 l0 x7_1).f4))).setCell ⟨gb190, 5, none⟩ (.int .i64 ((rd_T55 l0 x7_1).f5))).heap[gb190]? = some (.cells #[.int .i64 ((rd_T55 l0 x7_1).f0), .int .i64 ((rd_T55 l0 x7_1).f1), .int .i64 ((rd_T55 l0 x7_1).f2), .int .i64 ((rd_T55 l0 x7_1).f3), .int .i64 ((rd_T55 l0 x7_1).f4), .int .i64 ((rd_T55 l0 x7_1).f5)] 55 (0, 0))) := ⟨bp BK190⟩
       have n1_ : As_ (Below w.heap.size w ((((((w30.setCell ⟨gb190, 0, none⟩ (.int .i64 ((rd_T55 l0 x7_1).f0))).setCell ⟨gb190, 1, none⟩ (.int .i64 ((rd_T55 l0 x7_1).f1))).setCell ⟨gb190, 2, none⟩ (.int .i64 ((rd_T55 l0 x7_1).f2))).setCell ⟨gb190, 3, none⟩ (.int .i64 ((rd_T55 l0 x7_1).f3))).setCell ⟨gb190, 4, none⟩ (.int .i64 ((rd_T55 l0 x7_1).f4))).setCell ⟨gb190, 5, none⟩ (.int .i64 ((rd_T55 l0 x7_1).f5)))) := ⟨sqh⟩
       (try clear BK190)
       (try clear HB)
       generalize ((((((w30.setCell ⟨gb190, 0, none⟩ (.int .i64 ((rd_T55 l0 x7_1).f0))).setCell ⟨gb190, 1, none⟩ (.int .i64 ((rd_T55 l0 x7_1).f1))).setCell ⟨gb190, 2, none⟩ (.int .i64 ((rd_T55 l0 x7_1).f2))).setCell ⟨gb190, 3, none⟩ (.int .i64 ((rd_T55 l0 x7_1).f3))).setCell ⟨gb190, 4, none⟩ (.int .i64 ((rd_T55 l0 x7_1).f4))).setCell ⟨gb190, 5, none⟩ (.int .i64 ((rd_T55 l0 x7_1).f5))) = w32 at n0_ n1_ ⊢
       have BK190 := n0_
       have HB := n1_
       clear n0_ n1_
       replace BK190 := As_.mk (blk_drew BK190.out)
       replace HB := As_.mk (bD_ HB.out)
       refine start_ (n := 17) (S := fun w' => w'.cell? ⟨gb190, 0, none⟩ = some (.int .i64 ((rd_T55 l0 x7_1).f0)) ∧ w'.cell? ⟨gb190, 1, none⟩ = some (.int .i64 ((rd_T55 l0 x7_1).f1)) ∧ w'.cell? ⟨gb190, 2, none⟩ = some (.int .i64 ((rd_T55 l0 x7_1).f2)) ∧ w'.cell? ⟨gb190, 3, none⟩ = some (.int .i64 ((rd_T55 l0 x7_1).f3)) ∧ w'.cell? ⟨gb190, 4, none⟩ = some (.int .i64 ((rd_T55 l0 x7_1).f4)) ∧ w'.cell? ⟨gb190, 5, none⟩ = some (.int .i64 ((rd_T55 l0 x7_1).f5))) (ds := []) #[false, false, false, false, false, false, false, false, false, false, false, false, false, false, false, false, false] sqk rfl rfl (sc6 BK190.out) (fun hHeld => ?_); refine with_tabW impl_IsStore.tab4 impl_IsStore.bits4 (fun HT_ HW_ => ?_)
       generalize w32.drew = w33 at BK190 HB hHeld ⊢
       refine ta 0 12 ?_
       refine on 1 (some 13) (fun K hK => ?_)
       refine goes_ Try.func61 sqk rfl #[.agg #[.int .i64 ((rd_T55 l0 x7_1).f0), .int .i64 ((rd_T55 l0 x7_1).f1), .int .i64 ((rd_T55 l0 x7_1).f2), .int .i64 ((rd_T55 l0 x7_1).f3), .int .i64 ((rd_T55 l0 x7_1).f4), .int .i64 ((rd_T55 l0 x7_1).f5)]] (by rfl) rfl rfl sqm ?_
       with_reducible refine (impl_IsFact.calls ((rd_T55 l0 x7_1).f0) ((rd_T55 l0 x7_1).f1) ((rd_T55 l0 x7_1).f2) ((rd_T55 l0 x7_1).f3) ((rd_T55 l0 x7_1).f4) ((rd_T55 l0 x7_1).f5) false _ A5.out).mono ?_
       rintro e w34 ⟨rfl, hb⟩
       refine ⟨_, rfl, ?_⟩
       replace BK190 := As_.mk (blk_below (bo BK190) hb)
       replace HB := As_.mk (below_step sqh hb)
       (try clear hb)
       (try clear hb2)
       (try clear hk)
       (try clear hi)
       refine hK.out _ _ (sc6 BK190.out) (fun hHeld => ?_)
       clear hK K; refine no 13 ?_; refine pu 2 14 ?_; refine pu 3 15 ?_
       refine pure_ (i := 4) (N := some 16) (v := undef) (a' := ?_) #[true, true, true, true, true, false, false, false, false, false, false, false, false, false, false, false, false] rfl rfl (any_of HT_.out sqk) (fun _ _ _ h => h) (Or.inr ⟨by rfl, rfl⟩) ?_ ?_
       rotate_left
       ·simp only [Act.put, List.setIfInBounds_toArray, List.set_cons_zero, List.set_cons_succ, i64_w, i32_w]
        rfl
       refine pure_ (i := 5) (N := some 17) (v := undef) (a' := ?_) #[true, true, true, true, true, true, false, false, false, false, false, false, false, false, false, false, false] rfl rfl (any_of HT_.out sqk) (fun _ _ _ h => h) (Or.inr ⟨by rfl, rfl⟩) ?_ ?_
       rotate_left
       ·simp only [Act.put, List.setIfInBounds_toArray, List.set_cons_zero, List.set_cons_succ, i64_w, i32_w]
        rfl
       refine pure_ (i := 6) (N := some 18) (v := undef) (a' := ?_) #[true, true, true, true, true, true, true, false, false, false, false, false, false, false, false, false, false] rfl rfl (any_of HT_.out sqk) (fun _ _ _ h => h) (Or.inr ⟨by rfl, rfl⟩) ?_ ?_
       rotate_left
       ·simp only [Act.put, List.setIfInBounds_toArray, List.set_cons_zero, List.set_cons_succ, i64_w, i32_w]
        rfl
       refine pure_ (i := 7) (N := some 19) (v := undef) (a' := ?_) #[true, true, true, true, true, true, true, true, false, false, false, false, false, false, false, false, false] rfl rfl (any_of HT_.out sqk) (fun _ _ _ h => h) (Or.inr ⟨by rfl, rfl⟩) ?_ ?_
       rotate_left
       ·simp only [Act.put, List.setIfInBounds_toArray, List.set_cons_zero, List.set_cons_succ, i64_w, i32_w]
        rfl
       refine pure_ (i := 8) (N := some 20) (v := undef) (a' := ?_) #[true, true, true, true, true, true, true, true, true, false, false, false, false, false, false, false, false] rfl rfl (any_of HT_.out sqk) (fun _ _ _ h => h) (Or.inr ⟨by rfl, rfl⟩) ?_ ?_
       rotate_left
       ·simp only [Act.put, List.setIfInBounds_toArray, List.set_cons_zero, List.set_cons_succ, i64_w, i32_w]
        rfl
       refine pure_ (i := 9) (N := some 21) (v := undef) (a' := ?_) #[true, true, true, true, true, true, true, true, true, true, false, false, false, false, false, false, false] rfl rfl (any_of HT_.out sqk) (fun _ _ _ h => h) (Or.inr ⟨by rfl, rfl⟩) ?_ ?_
       rotate_left
       ·simp only [Act.put, List.setIfInBounds_toArray, List.set_cons_zero, List.set_cons_succ, i64_w, i32_w]
        rfl
       refine pure_ (i := 10) (N := some 22) (v := undef) (a' := ?_) #[true, true, true, true, true, true, true, true, true, true, true, false, false, false, false, false, false] rfl rfl (any_of HT_.out sqk) (fun _ _ _ h => h) (Or.inr ⟨by rfl, rfl⟩) ?_ ?_
       rotate_left
       ·simp only [Act.put, List.setIfInBounds_toArray, List.set_cons_zero, List.set_cons_succ, i64_w, i32_w]
        rfl
       refine pure_ (i := 11) (N := some 23) (v := undef) (a' := ?_) #[true, true, true, true, true, true, true, true, true, true, true, true, false, false, false, false, false] rfl rfl (any_of HT_.out sqk) (fun _ _ _ h => h) (Or.inr ⟨by rfl, rfl⟩) ?_ ?_
       rotate_left
       ·simp only [Act.put, List.setIfInBounds_toArray, List.set_cons_zero, List.set_cons_succ, i64_w, i32_w]
        rfl
       refine pure_ (i := 12) (N := some 24) (v := undef) (a' := ?_) #[true, true, true, true, true, true, true, true, true, true, true, true, true, false, false, false, false] rfl rfl (any_of HT_.out sqk) (fun _ _ _ h => h) (Or.inr ⟨by rfl, rfl⟩) ?_ ?_
       rotate_left
       ·simp only [Act.put, List.setIfInBounds_toArray, List.set_cons_zero, List.set_cons_succ, i64_w, i32_w]
        rfl
       refine pure_ (i := 13) (N := some 25) (v := undef) (a' := ?_) #[true, true, true, true, true, true, true, true, true, true, true, true, true, true, false, false, false] rfl rfl (any_of HT_.out sqk) (fun _ _ _ h => h) (Or.inr ⟨by rfl, rfl⟩) ?_ ?_
       rotate_left
       ·simp only [Act.put, List.setIfInBounds_toArray, List.set_cons_zero, List.set_cons_succ, i64_w, i32_w]
        rfl
       refine pure_ (i := 14) (N := some 26) (v := undef) (a' := ?_) #[true, true, true, true, true, true, true, true, true, true, true, true, true, true, true, false, false] rfl rfl (any_of HT_.out sqk) (fun _ _ _ h => h) (Or.inr ⟨by rfl, rfl⟩) ?_ ?_
       rotate_left
       ·simp only [Act.put, List.setIfInBounds_toArray, List.set_cons_zero, List.set_cons_succ, i64_w, i32_w]
        rfl
       refine pure_ (i := 15) (N := some 27) (v := undef) (a' := ?_) #[true, true, true, true, true, true, true, true, true, true, true, true, true, true, true, true, false] rfl rfl (any_of HT_.out sqk) (fun _ _ _ h => h) (Or.inr ⟨by rfl, rfl⟩) ?_ ?_
       rotate_left
       ·simp only [Act.put, List.setIfInBounds_toArray, List.set_cons_zero, List.set_cons_succ, i64_w, i32_w]
        rfl
       refine pu 16 28 ?_
       refine dn ?_
       try go_wp2
       go_ret
       exact ⟨sqe, sqh⟩
     ·rw [if_neg c4] at H
      exact absurd H (by simp)
    ·rw [if_neg c3] at H
     exact absurd H (by simp)
   ·rw [if_neg c2] at H
    have c2b0 : decide (x7_1 < (l0.length : Int)) = false := decide_eq_false c2
    clear c2
    obtain rfl := Option.some.inj H
    go_wp2
    go_ret
    exact ⟨sqe, sqh⟩

/-! ### impl_SameClaim: function 110 -/
def impl_SameClaim.f (a0_0 : Int) (a0_1 : Int) (a0_2 : Int) (a0_3 : Int) (a0_4 : Int) (a0_5 : Int) (a1_0 : Int) (a1_1 : Int) (a1_2 : Int) (a1_3 : Int) (a1_4 : Int) (a1_5 : Int) : Option (Bool) := (impl_compareClaims.f a0_0 a0_1 a0_2 a0_3 a0_4 a0_5 a1_0 a1_1 a1_2 a1_3 a1_4 a1_5).bind fun t196 => (some (t196 == 0))
set_option maxHeartbeats 8000000 in
set_option maxRecDepth 100000 in
theorem impl_SameClaim.calls (a0_0 : Int) (a0_1 : Int) (a0_2 : Int) (a0_3 : Int) (a0_4 : Int) (a0_5 : Int) (a1_0 : Int) (a1_1 : Int) (a1_2 : Int) (a1_3 : Int) (a1_4 : Int) (a1_5 : Int) (r : Bool) (w : World) (h : impl_SameClaim.f a0_0 a0_1 a0_2 a0_3 a0_4 a0_5 a1_0 a1_1 a1_2 a1_3 a1_4 a1_5 = some r) :
  Calls Try.prog 110 #[.agg #[.int .i64 a0_0, .int .i64 a0_1, .int .i64 a0_2, .int .i64 a0_3, .int .i64 a0_4, .int .i64 a0_5], .agg #[.int .i64 a1_0, .int .i64 a1_1, .int .i64 a1_2, .int .i64 a1_3, .int .i64 a1_4, .int .i64 a1_5]] w fun e w' => e = .returned (.bool r) ∧ Below w.heap.size w w' := by
 have hu55 := Try.underlying55
 have HB := As_.mk (Below.refl w.heap.size w)
 have H : ((impl_compareClaims.f a0_0 a0_1 a0_2 a0_3 a0_4 a0_5 a1_0 a1_1 a1_2 a1_3 a1_4 a1_5).bind fun t196 => (some (t196 == 0))) = some r := h
 clear h
 obtain ⟨t196, A3, H⟩ := bA H
 obtain rfl := Option.some.inj H
 go_enter Try.func110, Try.ntmps110
 go_wp2_with (first | ((with_reducible refine gate_dst (N := 2) rfl ?_); refine bx (N := 2) (cs := #[.int .i64 a0_0, .int .i64 a0_1, .int .i64 a0_2, .int .i64 a0_3, .int .i64 a0_4, .int .i64 a0_5]) (t := 55) ?_; intro gb194 hg w4 hbox hb; have BK194 := As_.mk (hbox); have GW194 := As_.mk ((by rw [hg]; exact (below_size sqh) : w.heap.size ≤ gb194)); have GE194 := As_.mk ((by rw [hg]; exact (below_size sqh) : w.heap.size ≤ gb194)); replace HB := As_.mk (below_step sqh hb); clear hb hbox hg) | ((with_reducible refine gate_dst (N := 3) rfl ?_); refine bx (N := 3) (cs := #[.int .i64 a1_0, .int .i64 a1_1, .int .i64 a1_2, .int .i64 a1_3, .int .i64 a1_4, .int .i64 a1_5]) (t := 55) ?_; intro gb195 hg w5 hbox hb; have BK195 := As_.mk (hbox); have GW195 := As_.mk ((by rw [hg]; exact (below_size sqh) : w.heap.size ≤ gb195)); have GE195 := As_.mk ((by rw [hg]; exact (below_size sqh) : w.heap.size ≤ gb195)); replace HB := As_.mk (below_step sqh hb); have NB194_195 := As_.mk ((by rw [hg]; exact Nat.ne_of_lt (blk_lt (bo BK194)) : gb194 ≠ gb195)); have NB195_194 := As_.mk ((by rw [hg]; exact Nat.ne_of_gt (blk_lt (bo BK194)) : gb195 ≠ gb194)); replace BK194 := As_.mk (blk_below (bo BK194) hb); clear hb hbox hg; have hnb6 := NB194_195.out; have hnc6 := NB195_194.out; obtain ⟨hcz7_0, hcz7_1, hcz7_2, hcz7_3, hcz7_4, hcz7_5, hfz7_0, hfz7_1, hfz7_2, hfz7_3, hfz7_4, hfz7_5⟩ := sd6 BK194.out; obtain ⟨hcz8_0, hcz8_1, hcz8_2, hcz8_3, hcz8_4, hcz8_5, hfz8_0, hfz8_1, hfz8_2, hfz8_3, hfz8_4, hfz8_5⟩ := sd6 BK195.out) | ((with_reducible refine gate_callee (f := 126) rfl ?_); refine goesL_ (some 7) rfl rfl Try.func126 sqk rfl #[.agg #[.int .i64 a0_0, .int .i64 a0_1, .int .i64 a0_2, .int .i64 a0_3, .int .i64 a0_4, .int .i64 a0_5], .agg #[.int .i64 a1_0, .int .i64 a1_1, .int .i64 a1_2, .int .i64 a1_3, .int .i64 a1_4, .int .i64 a1_5]] rfl sqm ?_; (with_reducible refine (impl_compareClaims.calls a0_0 a0_1 a0_2 a0_3 a0_4 a0_5 a1_0 a1_1 a1_2 a1_3 a1_4 a1_5 t196 _ A3.out).mono ?_); rintro e w9 ⟨rfl, hb⟩; refine ⟨_, rfl, ?_⟩; replace BK194 := As_.mk (blk_below (bo BK194) hb); replace BK195 := As_.mk (blk_below (bo BK195) hb); replace HB := As_.mk (below_step sqh hb); (try clear hb)))
 go_ret
 exact ⟨sqe, sqh⟩

end Go.Proofs.Ytabpgiebhgkfhaa.XFnIssuers
