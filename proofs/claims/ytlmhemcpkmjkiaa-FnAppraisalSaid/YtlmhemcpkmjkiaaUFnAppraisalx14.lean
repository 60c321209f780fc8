/- Written by this session's own program (wip/xprint, which runs over the kit's print): what the functions that the law reaches come to, each proved; and the law's row. Conditions: none. -/
import Derived.Test.YtlmhemcpkmjkiaaUFnAppraisalSq
import Derived.Test.YtlmhemcpkmjkiaaUFnAppraisalx0
import Derived.Test.YtlmhemcpkmjkiaaUFnAppraisalx2
import Derived.Test.YtlmhemcpkmjkiaaUFnAppraisalx12
import Derived.Test.YtlmhemcpkmjkiaaUFnAppraisalx13
namespace Go.Proofs.Ytlmhemcpkmjkiaa.XFnAppraisal
open Go.RowKit Go.Proofs.YtlmhemcpkmjkiaaW.PrintWords Go.Proofs.YtlmhemcpkmjkiaaW.PrintLast Go.Proofs.YtlmhemcpkmjkiaaW.PrintMore Go.Proofs.YtlmhemcpkmjkiaaSq
attribute [local go_sem] max2_int min2_int max_two min_two max_three min_three max_four min_four   -- for this text's walks alone
set_option linter.unusedVariables false
set_option linter.unusedSimpArgs false

/-! ### impl_HealthFact: function 62 -/
def impl_HealthFact.j0 : Nat → Bool → Int → Int → Int → Int → Int → Int → Option (Int × Int × Int × Int × Int × Int × Bool)
 | 0, _, _, _, _, _, _, _ => none
 | k + 1, x38, x531000, x531001, x531002, x531003, x531004, x531005 => if x38 = true then (some (0, 0, 0, 0, 0, 0, false)) else (some (x531000, x531001, x531002, x531003, x531004, x531005, true))
def impl_HealthFact.f (k : Nat) (a0_0 : Int) (l0_1 : List Int) (l0_2 : List Int) (l0_3 : List Int) (a1 : Int) (a2_0 : Int) (a2_1 : Int) (a2_2 : Int) (a2_3 : Int) (a2_4 : Int) (l3 : List Int) (a4 : Int) (a5 : Int) (a6 : Int) : Option (Int × Int × Int × Int × Int × Int × Bool) := (impl_AppraiseLog.f k a0_0 l0_1 l0_2 l0_3 l3).bind fun t528 => ((impl_EndOf.f a5 a6).bind fun t529 => ((impl_CheckQuote.f k a1 a2_0 a2_1 a2_2 a2_3 a2_4 l3 a4 a5 5).bind fun t531 => (if t531 = true then ((impl_IsFact.f 3 a2_0 t528 1 a5 t529).bind fun t532 => (impl_HealthFact.j0 k (!t532) 3 a2_0 t528 1 a5 t529)) else (impl_HealthFact.j0 k true 3 a2_0 t528 1 a5 t529))))
def impl_HealthFact.T1 : Bool × List (List Nat × List Nat) := (true, [([], []), ([0], [0]), ([], []), ([], []), ([2, 3], [2, 3]), ([], []), ([], []), ([], []), ([6, 7, 4], [6, 7]), ([1, 4, 5, 8], [1, 4, 5, 8]), ([], []), ([10, 9, 8, 0, 1, 2, 3, 4, 5, 6, 7, 8, 9, 10], [9, 10])])
def impl_HealthFact.B1 : List Nat := [0, 1, 0, 0, 12, 0, 0, 0, 220, 511, 0, 2047]
theorem impl_HealthFact.tab1 : rtab .any (opsOf Try.f62 1) = impl_HealthFact.T1 := by kernel_rfl
theorem impl_HealthFact.bits1 : waitsOk impl_HealthFact.T1.2 impl_HealthFact.B1 = true := by kernel_rfl
theorem z62_0 {Q : Prop} (g : Q := by rw [hg]; exact (below_size sqh)) : Q := g
set_option maxHeartbeats 8000000 in
set_option maxRecDepth 100000 in
theorem impl_HealthFact.calls (k : Nat) (a0_0 : Int) (A0_1 : Option Addr) (c0_1 : Nat) (l0_1 : List Int) (A0_2 : Option Addr) (c0_2 : Nat) (l0_2 : List Int) (A0_3 : Option Addr) (c0_3 : Nat) (l0_3 : List Int) (a1 : Int) (a2_0 : Int) (a2_1 : Int) (a2_2 : Int) (a2_3 : Int) (a2_4 : Int) (A3 : Option Addr) (c3 : Nat) (l3 : List Int) (a4 : Int) (a5 : Int) (a6 : Int) (r1 : Int) (r2 : Int) (r3 : Int) (r4 : Int) (r5 : Int) (r6 : Int) (r7 : Bool) (w : World) (hr0_1 : Kd.C (Kd.int .i64) w A0_1 l0_1.length l0_1) (hc0_1 : l0_1.length ≤ c0_1) (hr0_2 : Kd.C (Kd.int .i64) w A0_2 l0_2.length l0_2) (hc0_2 : l0_2.length ≤ c0_2) (hr0_3 : Kd.C (Kd.int .i64) w A0_3 l0_3.length l0_3) (hc0_3 : l0_3.length ≤ c0_3) (hr3 : Kd.C (Kd.int .i64) w A3 l3.length l3) (hc3 : l3.length ≤ c3) (h : impl_HealthFact.f k a0_0 l0_1 l0_2 l0_3 a1 a2_0 a2_1 a2_2 a2_3 a2_4 l3 a4 a5 a6 = some (r1, r2, r3, r4, r5, r6, r7)) :
  Calls Try.prog 62 #[.agg #[.int .i64 a0_0, .slice A0_1 l0_1.length c0_1, .slice A0_2 l0_2.length c0_2, .slice A0_3 l0_3.length c0_3], .int .i64 a1, .agg #[.int .i64 a2_0, .int .i64 a2_1, .int .i64 a2_2, .int .i64 a2_3, .int .i64 a2_4], .slice A3 l3.length c3, .int .i64 a4, .int .i64 a5, .int .i64 a6] w fun e w' => e = .returned (.tuple #[.agg #[.int .i64 r1, .int .i64 r2, .int .i64 r3, .int .i64 r4, .int .i64 r5, .int .i64 r6], .bool r7]) ∧ Below w.heap.size w w' := by
 have hu33 := Try.underlying33
 have hu45 := Try.underlying45
 have hu83 := Try.underlying83
 have HR0_1 := Aside0.mk hr0_1
 have HC0_1 := Aside0.mk hc0_1
 clear hr0_1 hc0_1
 have HR0_2 := Aside0.mk hr0_2
 have HC0_2 := Aside0.mk hc0_2
 clear hr0_2 hc0_2
 have HR0_3 := Aside0.mk hr0_3
 have HC0_3 := Aside0.mk hc0_3
 clear hr0_3 hc0_3
 have HR3 := Aside0.mk hr3
 have HC3 := Aside0.mk hc3
 clear hr3 hc3
 have HB := Aside0.mk (Below.refl w.heap.size w)
 have H : ((impl_AppraiseLog.f k a0_0 l0_1 l0_2 l0_3 l3).bind fun t528 => ((impl_EndOf.f a5 a6).bind fun t529 => ((impl_CheckQuote.f k a1 a2_0 a2_1 a2_2 a2_3 a2_4 l3 a4 a5 5).bind fun t531 => (if t531 = true then ((impl_IsFact.f 3 a2_0 t528 1 a5 t529).bind fun t532 => (impl_HealthFact.j0 k (!t532) 3 a2_0 t528 1 a5 t529)) else (impl_HealthFact.j0 k true 3 a2_0 t528 1 a5 t529))))) = some (r1, r2, r3, r4, r5, r6, r7) := h
 clear h
 obtain ⟨t528, A8, H⟩ := bA H
 obtain ⟨t529, A9, H⟩ := bA H
 have HC10 := Aside0.mk H
 clear H
 go_enter Try.func62, Try.ntmps62
 try go_wp2_with (first | ((with_reducible refine gate_dst (N := 7) rfl ?_); refine bx (N := 7) (cs := #[.int .i64 a0_0, .slice A0_1 l0_1.length c0_1, .slice A0_2 l0_2.length c0_2, .slice A0_3 l0_3.length c0_3]) (t := 33) ?_; intro gb525 hg w11 hbox hb; have BK525 := Aside0.mk (hbox); have GW525 := Aside0.mk ((z62_0 : w.heap.size ≤ gb525)); have GE525 := Aside0.mk ((z62_0 : w.heap.size ≤ gb525)); replace HB := Aside0.mk (below_step sqh hb); clear hb hbox hg) | ((with_reducible refine gate_dst (N := 9) rfl ?_); refine bx (N := 9) (cs := #[.int .i64 a2_0, .int .i64 a2_1, .int .i64 a2_2, .int .i64 a2_3, .int .i64 a2_4]) (t := 45) ?_; intro gb526 hg w12 hbox hb; have BK526 := Aside0.mk (hbox); have GW526 := Aside0.mk ((z62_0 : w.heap.size ≤ gb526)); have GE526 := Aside0.mk ((z62_0 : w.heap.size ≤ gb526)); replace HB := Aside0.mk (below_step sqh hb); have NB525_526 := Aside0.mk ((by rw [hg]; exact Nat.ne_of_lt (blk_lt (bo BK525)) : gb525 ≠ gb526)); have NB526_525 := Aside0.mk ((by rw [hg]; exact Nat.ne_of_gt (blk_lt (bo BK525)) : gb526 ≠ gb525)); replace BK525 := Aside0.mk (blk_below (bo BK525) hb); clear hb hbox hg) | ((with_reducible refine gate_dst (N := 14) rfl ?_); refine bx (N := 14) (cs := #[.int .i64 0, .int .i64 0, .int .i64 0, .int .i64 0, .int .i64 0, .int .i64 0]) (t := 83) ?_; intro gb527 hg w13 hbox hb; have BK527 := Aside0.mk (hbox); have GW527 := Aside0.mk ((z62_0 : w.heap.size ≤ gb527)); have GE527 := Aside0.mk ((z62_0 : w.heap.size ≤ gb527)); replace HB := Aside0.mk (below_step sqh hb); have NB525_527 := Aside0.mk ((by rw [hg]; exact Nat.ne_of_lt (blk_lt (bo BK525)) : gb525 ≠ gb527)); have NB527_525 := Aside0.mk ((by rw [hg]; exact Nat.ne_of_gt (blk_lt (bo BK525)) : gb527 ≠ gb525)); replace BK525 := Aside0.mk (blk_below (bo BK525) hb); have NB526_527 := Aside0.mk ((by rw [hg]; exact Nat.ne_of_lt (blk_lt (bo BK526)) : gb526 ≠ gb527)); have NB527_526 := Aside0.mk ((by rw [hg]; exact Nat.ne_of_gt (blk_lt (bo BK526)) : gb527 ≠ gb526)); replace BK526 := Aside0.mk (blk_below (bo BK526) hb); clear hb hbox hg))
 replace BK525 := Aside0.mk (blk_drew BK525.out)
 replace BK526 := Aside0.mk (blk_drew BK526.out)
 replace BK527 := Aside0.mk (blk_drew BK527.out)
 replace HB := Aside0.mk (below_drew1 HB.out)
 refine start_ (n := 12) (S := fun w' => w'.cell? ⟨gb526, 0, none⟩ = some (.int .i64 a2_0) ∧ w'.cell? ⟨gb526, 1, none⟩ = some (.int .i64 a2_1) ∧ w'.cell? ⟨gb526, 2, none⟩ = some (.int .i64 a2_2) ∧ w'.cell? ⟨gb526, 3, none⟩ = some (.int .i64 a2_3) ∧ w'.cell? ⟨gb526, 4, none⟩ = some (.int .i64 a2_4) ∧ w'.cell? ⟨gb525, 0, none⟩ = some (.int .i64 a0_0) ∧ w'.cell? ⟨gb525, 1, none⟩ = some (.slice A0_1 l0_1.length c0_1) ∧ w'.cell? ⟨gb525, 2, none⟩ = some (.slice A0_2 l0_2.length c0_2) ∧ w'.cell? ⟨gb525, 3, none⟩ = some (.slice A0_3 l0_3.length c0_3)) (ds := []) #[false, false, false, false, false, false, false, false, false, false, false, false] sqk rfl rfl (sa5 BK526.out (sc4 BK525.out)) (fun hHeld => ?_); refine with_tabW impl_HealthFact.tab1 impl_HealthFact.bits1 (fun HT_ HW_ => ?_)
 generalize w13.drew = w14 at BK525 BK526 BK527 HB hHeld ⊢
 refine pu 0 17 ?_; refine pu 3 20 ?_; refine pu 5 22 ?_; refine pu 6 23 ?_; refine pu 7 24 ?_; refine ta 1 18 ?_; refine ta 2 19 ?_
 refine join_ (σ := Nat) 1 #[true, true, true, true, true, true, true, true, true, true, true, false] (fun s_ => [(21, .int .i64 t528), (25, .int .i64 t529), (16, .pointer (some ⟨s_, 0, none⟩)), (26, .agg #[.int .i64 3, .int .i64 a2_0, .int .i64 t528, .int .i64 1, .int .i64 a5, .int .i64 t529])]) (fun s_ w' => (w'.cell? ⟨gb526, 0, none⟩ = some (.int .i64 a2_0) ∧ w'.cell? ⟨gb526, 1, none⟩ = some (.int .i64 a2_1) ∧ w'.cell? ⟨gb526, 2, none⟩ = some (.int .i64 a2_2) ∧ w'.cell? ⟨gb526, 3, none⟩ = some (.int .i64 a2_3) ∧ w'.cell? ⟨gb526, 4, none⟩ = some (.int .i64 a2_4) ∧ w'.cell? ⟨gb525, 0, none⟩ = some (.int .i64 a0_0) ∧ w'.cell? ⟨gb525, 1, none⟩ = some (.slice A0_1 l0_1.length c0_1) ∧ w'.cell? ⟨gb525, 2, none⟩ = some (.slice A0_2 l0_2.length c0_2) ∧ w'.cell? ⟨gb525, 3, none⟩ = some (.slice A0_3 l0_3.length c0_3)) ∧ (w'.heap[gb525]? = some (.cells #[.int .i64 a0_0, .slice A0_1 l0_1.length c0_1, .slice A0_2 l0_2.length c0_2, .slice A0_3 l0_3.length c0_3] 33 (0, 0))) ∧ (w'.heap[gb526]? = some (.cells #[.int .i64 a2_0, .int .i64 a2_1, .int .i64 a2_2, .int .i64 a2_3, .int .i64 a2_4] 45 (0, 0))) ∧ (w'.heap[gb527]? = some (.cells #[.int .i64 0, .int .i64 0, .int .i64 0, .int .i64 0, .int .i64 0, .int .i64 0] 83 (0, 0))) ∧ (w'.heap[s_]? = some (.cells #[.int .i64 0, .int .i64 0, .int .i64 0, .int .i64 0, .int .i64 0, .int .i64 0] 83 (0, 0))) ∧ (w.heap.size ≤ s_) ∧ (w.heap.size ≤ s_) ∧ (gb525 ≠ s_) ∧ (s_ ≠ gb525) ∧ (gb526 ≠ s_) ∧ (s_ ≠ gb526) ∧ (gb527 ≠ s_) ∧ (s_ ≠ gb527) ∧ (Below w.heap.size w w')) ?_ ?_
 rotate_left
 ·intro hCont
  refine two_ (i := 4) (j := 10) (Ni := some 21) (Nj := some 16) #[true, true, true, true, true, true, true, true, false, false, false, false] #[true, true, true, true, false, true, true, true, false, false, true, false] rfl rfl rfl rfl (two_of HT_.out sqk) (by decide) (by decide) (fun K hK => ?_) (fun K hK => ?_)
  ·skip
   refine goes_ Try.func29 sqk rfl #[.agg #[.int .i64 a0_0, .slice A0_1 l0_1.length c0_1, .slice A0_2 l0_2.length c0_2, .slice A0_3 l0_3.length c0_3], .slice A3 l3.length c3] (by rfl) rfl rfl sqm ?_
   with_reducible refine (impl_AppraiseLog.calls k a0_0 _ _ l0_1 _ _ l0_2 _ _ l0_3 _ _ l3 t528 _ ?side1 ?side2 ?side3 ?side4 ?side5 ?side6 ?side7 ?side8 A8.out).mono ?_
   (case side1 => repeat (first | exact (Kd.C_below HR0_1.out HB.out) | (with_reducible refine Kd.C_alloc ?_ _) | (with_reducible refine Kd.C_drewN ?_ _) | (with_reducible refine Kd.C_drew ?_)))
   (case side2 => exact HC0_1.out)
   (case side3 => repeat (first | exact (Kd.C_below HR0_2.out HB.out) | (with_reducible refine Kd.C_alloc ?_ _) | (with_reducible refine Kd.C_drewN ?_ _) | (with_reducible refine Kd.C_drew ?_)))
   (case side4 => exact HC0_2.out)
   (case side5 => repeat (first | exact (Kd.C_below HR0_3.out HB.out) | (with_reducible refine Kd.C_alloc ?_ _) | (with_reducible refine Kd.C_drewN ?_ _) | (with_reducible refine Kd.C_drew ?_)))
   (case side6 => exact HC0_3.out)
   (case side7 => repeat (first | exact (Kd.C_below HR3.out HB.out) | (with_reducible refine Kd.C_alloc ?_ _) | (with_reducible refine Kd.C_drewN ?_ _) | (with_reducible refine Kd.C_drew ?_)))
   (case side8 => exact HC3.out)
   rintro e w15 ⟨rfl, hb⟩
   refine ⟨_, rfl, ?_⟩
   replace BK525 := Aside0.mk (blk_below (bo BK525) hb)
   replace BK526 := Aside0.mk (blk_below (bo BK526) hb)
   replace BK527 := Aside0.mk (blk_below (bo BK527) hb)
   replace HB := Aside0.mk (below_step sqh hb)
   (try clear hb)
   (try clear hb2)
   (try clear hk)
   (try clear hi)
   refine hK.out _ _ (sa5 BK526.out (sc4 BK525.out)) (fun hHeld => ?_)
   clear hK K; refine no 21 ?_
   refine two_ (i := 8) (j := 10) (Ni := some 25) (Nj := some 16) #[true, true, true, true, true, true, true, true, true, false, false, false] #[true, true, true, true, true, true, true, true, false, false, true, false] rfl rfl rfl rfl (two_of HT_.out sqk) (by decide) (by decide) (fun K hK => ?_) (fun K hK => ?_)
   ·skip
    refine goes_ Try.func108 sqk rfl #[.int .i64 a5, .int .i64 a6] (by rfl) rfl rfl sqm ?_
    with_reducible refine (impl_EndOf.calls a5 a6 t529 _ A9.out).mono ?_
    rintro e w16 ⟨rfl, hb⟩
    refine ⟨_, rfl, ?_⟩
    replace BK525 := Aside0.mk (blk_below (bo BK525) hb)
    replace BK526 := Aside0.mk (blk_below (bo BK526) hb)
    replace BK527 := Aside0.mk (blk_below (bo BK527) hb)
    replace HB := Aside0.mk (below_step sqh hb)
    (try clear hb)
    (try clear hb2)
    (try clear hk)
    (try clear hi)
    refine hK.out _ _ (sa5 BK526.out (sc4 BK525.out)) (fun hHeld => ?_)
    clear hK K; refine no 25 ?_; refine pu 9 26 ?_
    refine on 10 (some 16) (fun K hK => ?_)
    refine box_step ?hg (N := 16) ?hd (cs := #[.int .i64 0, .int .i64 0, .int .i64 0, .int .i64 0, .int .i64 0, .int .i64 0]) (t := 83) ?hr ?_; (case hd => rfl); (case hg => rfl); (case hr => first | (go_simp; done) | (go_simp; rfl))
    intro gb530 hg w17 hbox hb
    have BK530 := Aside0.mk (hbox)
    have GW530 := Aside0.mk ((z62_0 : w.heap.size ≤ gb530))
    have GE530 := Aside0.mk ((z62_0 : w.heap.size ≤ gb530))
    replace HB := Aside0.mk (below_step sqh hb)
    have NB525_530 := Aside0.mk ((by rw [hg]; exact Nat.ne_of_lt (blk_lt (bo BK525)) : gb525 ≠ gb530))
    have NB530_525 := Aside0.mk ((by rw [hg]; exact Nat.ne_of_gt (blk_lt (bo BK525)) : gb530 ≠ gb525))
    replace BK525 := Aside0.mk (blk_below (bo BK525) hb)
    have NB526_530 := Aside0.mk ((by rw [hg]; exact Nat.ne_of_lt (blk_lt (bo BK526)) : gb526 ≠ gb530))
    have NB530_526 := Aside0.mk ((by rw [hg]; exact Nat.ne_of_gt (blk_lt (bo BK526)) : gb530 ≠ gb526))
    replace BK526 := Aside0.mk (blk_below (bo BK526) hb)
    have NB527_530 := Aside0.mk ((by rw [hg]; exact Nat.ne_of_lt (blk_lt (bo BK527)) : gb527 ≠ gb530))
    have NB530_527 := Aside0.mk ((by rw [hg]; exact Nat.ne_of_gt (blk_lt (bo BK527)) : gb530 ≠ gb527))
    replace BK527 := Aside0.mk (blk_below (bo BK527) hb)
    clear hb hbox hg
    refine hK.out _ _ (sa5 BK526.out (sc4 BK525.out)) (fun hHeld => ?_)
    clear hK K; refine no 16 ?_
    exact norm_ (by simp only [putAll, Act.put, List.setIfInBounds_toArray, List.set_cons_zero, List.set_cons_succ]) (hCont (gb530) _ ⟨hHeld, (sqb BK525.out), (sqb BK526.out), (sqb BK527.out), (sqb BK530.out), GW530.out, GE530.out, NB525_530.out, NB530_525.out, NB526_530.out, NB530_526.out, NB527_530.out, NB530_527.out, sqh⟩)
   ·skip
    refine box_step ?hg (N := 16) ?hd (cs := #[.int .i64 0, .int .i64 0, .int .i64 0, .int .i64 0, .int .i64 0, .int .i64 0]) (t := 83) ?hr ?_; (case hd => rfl); (case hg => rfl); (case hr => first | (go_simp; done) | (go_simp; rfl))
    intro gb530 hg w16 hbox hb
    have BK530 := Aside0.mk (hbox)
    have GW530 := Aside0.mk ((z62_0 : w.heap.size ≤ gb530))
    have GE530 := Aside0.mk ((z62_0 : w.heap.size ≤ gb530))
    replace HB := Aside0.mk (below_step sqh hb)
    have NB525_530 := Aside0.mk ((by rw [hg]; exact Nat.ne_of_lt (blk_lt (bo BK525)) : gb525 ≠ gb530))
    have NB530_525 := Aside0.mk ((by rw [hg]; exact Nat.ne_of_gt (blk_lt (bo BK525)) : gb530 ≠ gb525))
    replace BK525 := Aside0.mk (blk_below (bo BK525) hb)
    have NB526_530 := Aside0.mk ((by rw [hg]; exact Nat.ne_of_lt (blk_lt (bo BK526)) : gb526 ≠ gb530))
    have NB530_526 := Aside0.mk ((by rw [hg]; exact Nat.ne_of_gt (blk_lt (bo BK526)) : gb530 ≠ gb526))
    replace BK526 := Aside0.mk (blk_below (bo BK526) hb)
    have NB527_530 := Aside0.mk ((by rw [hg]; exact Nat.ne_of_lt (blk_lt (bo BK527)) : gb527 ≠ gb530))
    have NB530_527 := Aside0.mk ((by rw [hg]; exact Nat.ne_of_gt (blk_lt (bo BK527)) : gb530 ≠ gb527))
    replace BK527 := Aside0.mk (blk_below (bo BK527) hb)
    clear hb hbox hg
    refine hK.out _ _ (sa5 BK526.out (sc4 BK525.out)) (fun hHeld => ?_)
    clear hK K; refine no 16 ?_
    refine on 8 (some 25) (fun K hK => ?_)
    refine goes_ Try.func108 sqk rfl #[.int .i64 a5, .int .i64 a6] (by rfl) rfl rfl sqm ?_
    with_reducible refine (impl_EndOf.calls a5 a6 t529 _ A9.out).mono ?_
    rintro e w17 ⟨rfl, hb⟩
    refine ⟨_, rfl, ?_⟩
    replace BK525 := Aside0.mk (blk_below (bo BK525) hb)
    replace BK526 := Aside0.mk (blk_below (bo BK526) hb)
    replace BK527 := Aside0.mk (blk_below (bo BK527) hb)
    replace BK530 := Aside0.mk (blk_below (bo BK530) hb)
    replace HB := Aside0.mk (below_step sqh hb)
    (try clear hb)
    (try clear hb2)
    (try clear hk)
    (try clear hi)
    refine hK.out _ _ (sa5 BK526.out (sc4 BK525.out)) (fun hHeld => ?_)
    clear hK K; refine no 25 ?_; refine pu 9 26 ?_
    exact norm_ (by simp only [putAll, Act.put, List.setIfInBounds_toArray, List.set_cons_zero, List.set_cons_succ]) (hCont (gb530) _ ⟨hHeld, (sqb BK525.out), (sqb BK526.out), (sqb BK527.out), (sqb BK530.out), GW530.out, GE530.out, NB525_530.out, NB530_525.out, NB526_530.out, NB530_526.out, NB527_530.out, NB530_527.out, sqh⟩)
  ·skip
   refine box_step ?hg (N := 16) ?hd (cs := #[.int .i64 0, .int .i64 0, .int .i64 0, .int .i64 0, .int .i64 0, .int .i64 0]) (t := 83) ?hr ?_; (case hd => rfl); (case hg => rfl); (case hr => first | (go_simp; done) | (go_simp; rfl))
   intro gb530 hg w15 hbox hb
   have BK530 := Aside0.mk (hbox)
   have GW530 := Aside0.mk ((z62_0 : w.heap.size ≤ gb530))
   have GE530 := Aside0.mk ((z62_0 : w.heap.size ≤ gb530))
   replace HB := Aside0.mk (below_step sqh hb)
   have NB525_530 := Aside0.mk ((by rw [hg]; exact Nat.ne_of_lt (blk_lt (bo BK525)) : gb525 ≠ gb530))
   have NB530_525 := Aside0.mk ((by rw [hg]; exact Nat.ne_of_gt (blk_lt (bo BK525)) : gb530 ≠ gb525))
   replace BK525 := Aside0.mk (blk_below (bo BK525) hb)
   have NB526_530 := Aside0.mk ((by rw [hg]; exact Nat.ne_of_lt (blk_lt (bo BK526)) : gb526 ≠ gb530))
   have NB530_526 := Aside0.mk ((by rw [hg]; exact Nat.ne_of_gt (blk_lt (bo BK526)) : gb530 ≠ gb526))
   replace BK526 := Aside0.mk (blk_below (bo BK526) hb)
   have NB527_530 := Aside0.mk ((by rw [hg]; exact Nat.ne_of_lt (blk_lt (bo BK527)) : gb527 ≠ gb530))
   have NB530_527 := Aside0.mk ((by rw [hg]; exact Nat.ne_of_gt (blk_lt (bo BK527)) : gb530 ≠ gb527))
   replace BK527 := Aside0.mk (blk_below (bo BK527) hb)
   clear hb hbox hg
   refine hK.out _ _ (sa5 BK526.out (sc4 BK525.out)) (fun hHeld => ?_)
   clear hK K; refine no 16 ?_
   refine on 4 (some 21) (fun K hK => ?_)
   refine goes_ Try.func29 sqk rfl #[.agg #[.int .i64 a0_0, .slice A0_1 l0_1.length c0_1, .slice A0_2 l0_2.length c0_2, .slice A0_3 l0_3.length c0_3], .slice A3 l3.length c3] (by rfl) rfl rfl sqm ?_
   with_reducible refine (impl_AppraiseLog.calls k a0_0 _ _ l0_1 _ _ l0_2 _ _ l0_3 _ _ l3 t528 _ ?side1 ?side2 ?side3 ?side4 ?side5 ?side6 ?side7 ?side8 A8.out).mono ?_
   (case side1 => repeat (first | exact (Kd.C_below HR0_1.out HB.out) | (with_reducible refine Kd.C_alloc ?_ _) | (with_reducible refine Kd.C_drewN ?_ _) | (with_reducible refine Kd.C_drew ?_)))
   (case side2 => exact HC0_1.out)
   (case side3 => repeat (first | exact (Kd.C_below HR0_2.out HB.out) | (with_reducible refine Kd.C_alloc ?_ _) | (with_reducible refine Kd.C_drewN ?_ _) | (with_reducible refine Kd.C_drew ?_)))
   (case side4 => exact HC0_2.out)
   (case side5 => repeat (first | exact (Kd.C_below HR0_3.out HB.out) | (with_reducible refine Kd.C_alloc ?_ _) | (with_reducible refine Kd.C_drewN ?_ _) | (with_reducible refine Kd.C_drew ?_)))
   (case side6 => exact HC0_3.out)
   (case side7 => repeat (first | exact (Kd.C_below HR3.out HB.out) | (with_reducible refine Kd.C_alloc ?_ _) | (with_reducible refine Kd.C_drewN ?_ _) | (with_reducible refine Kd.C_drew ?_)))
   (case side8 => exact HC3.out)
   rintro e w16 ⟨rfl, hb⟩
   refine ⟨_, rfl, ?_⟩
   replace BK525 := Aside0.mk (blk_below (bo BK525) hb)
   replace BK526 := Aside0.mk (blk_below (bo BK526) hb)
   replace BK527 := Aside0.mk (blk_below (bo BK527) hb)
   replace BK530 := Aside0.mk (blk_below (bo BK530) hb)
   replace HB := Aside0.mk (below_step sqh hb)
   (try clear hb)
   (try clear hb2)
   (try clear hk)
   (try clear hi)
   refine hK.out _ _ (sa5 BK526.out (sc4 BK525.out)) (fun hHeld => ?_)
   clear hK K; refine no 21 ?_
   refine on 8 (some 25) (fun K hK => ?_)
   refine goes_ Try.func108 sqk rfl #[.int .i64 a5, .int .i64 a6] (by rfl) rfl rfl sqm ?_
   with_reducible refine (impl_EndOf.calls a5 a6 t529 _ A9.out).mono ?_
   rintro e w17 ⟨rfl, hb⟩
   refine ⟨_, rfl, ?_⟩
   replace BK525 := Aside0.mk (blk_below (bo BK525) hb)
   replace BK526 := Aside0.mk (blk_below (bo BK526) hb)
   replace BK527 := Aside0.mk (blk_below (bo BK527) hb)
   replace BK530 := Aside0.mk (blk_below (bo BK530) hb)
   replace HB := Aside0.mk (below_step sqh hb)
   (try clear hb)
   (try clear hb2)
   (try clear hk)
   (try clear hi)
   refine hK.out _ _ (sa5 BK526.out (sc4 BK525.out)) (fun hHeld => ?_)
   clear hK K; refine no 25 ?_; refine pu 9 26 ?_
   exact norm_ (by simp only [putAll, Act.put, List.setIfInBounds_toArray, List.set_cons_zero, List.set_cons_succ]) (hCont (gb530) _ ⟨hHeld, (sqb BK525.out), (sqb BK526.out), (sqb BK527.out), (sqb BK530.out), GW530.out, GE530.out, NB525_530.out, NB530_525.out, NB526_530.out, NB530_526.out, NB527_530.out, NB530_527.out, sqh⟩)
 rintro gb530 w18 ⟨hS_, h0_, h1_, h2_, h3_, h4_, h5_, h6_, h7_, h8_, h9_, h10_, h11_, h12_⟩
 have n0_ : Aside0 (w18.heap[gb525]? = some (.cells #[.int .i64 a0_0, .slice A0_1 l0_1.length c0_1, .slice A0_2 l0_2.length c0_2, .slice A0_3 l0_3.length c0_3] 33 (0, 0))) := ⟨h0_⟩
 have n1_ : Aside0 (w18.heap[gb526]? = some (.cells #[.int .i64 a2_0, .int .i64 a2_1, .int .i64 a2_2, .int .i64 a2_3, .int .i64 a2_4] 45 (0, 0))) := ⟨h1_⟩
 have n2_ : Aside0 (w18.heap[gb527]? = some (.cells #[.int .i64 0, .int .i64 0, .int .i64 0, .int .i64 0, .int .i64 0, .int .i64 0] 83 (0, 0))) := ⟨h2_⟩
 have n3_ : Aside0 (w18.heap[gb530]? = some (.cells #[.int .i64 0, .int .i64 0, .int .i64 0, .int .i64 0, .int .i64 0, .int .i64 0] 83 (0, 0))) := ⟨h3_⟩
 have n4_ : Aside0 (w.heap.size ≤ gb530) := ⟨h4_⟩
 have n5_ : Aside0 (w.heap.size ≤ gb530) := ⟨h5_⟩
 have n6_ : Aside0 (gb525 ≠ gb530) := ⟨h6_⟩
 have n7_ : Aside0 (gb530 ≠ gb525) := ⟨h7_⟩
 have n8_ : Aside0 (gb526 ≠ gb530) := ⟨h8_⟩
 have n9_ : Aside0 (gb530 ≠ gb526) := ⟨h9_⟩
 have n10_ : Aside0 (gb527 ≠ gb530) := ⟨h10_⟩
 have n11_ : Aside0 (gb530 ≠ gb527) := ⟨h11_⟩
 have n12_ : Aside0 (Below w.heap.size w w18) := ⟨h12_⟩
 clear BK525; clear BK526; clear BK527; clear HB; clear h0_ h1_ h2_ h3_ h4_ h5_ h6_ h7_ h8_ h9_ h10_ h11_ h12_
 have BK525 := n0_
 have BK526 := n1_
 have BK527 := n2_
 have BK530 := n3_
 have GW530 := n4_
 have GE530 := n5_
 have NB525_530 := n6_
 have NB530_525 := n7_
 have NB526_530 := n8_
 have NB530_526 := n9_
 have NB527_530 := n10_
 have NB530_527 := n11_
 have HB := n12_
 clear n0_ n1_ n2_ n3_ n4_ n5_ n6_ n7_ n8_ n9_ n10_ n11_ n12_
 have hHeld : w18.cell? ⟨gb526, 0, none⟩ = some (.int .i64 a2_0) ∧ w18.cell? ⟨gb526, 1, none⟩ = some (.int .i64 a2_1) ∧ w18.cell? ⟨gb526, 2, none⟩ = some (.int .i64 a2_2) ∧ w18.cell? ⟨gb526, 3, none⟩ = some (.int .i64 a2_3) ∧ w18.cell? ⟨gb526, 4, none⟩ = some (.int .i64 a2_4) ∧ w18.cell? ⟨gb525, 0, none⟩ = some (.int .i64 a0_0) ∧ w18.cell? ⟨gb525, 1, none⟩ = some (.slice A0_1 l0_1.length c0_1) ∧ w18.cell? ⟨gb525, 2, none⟩ = some (.slice A0_2 l0_2.length c0_2) ∧ w18.cell? ⟨gb525, 3, none⟩ = some (.slice A0_3 l0_3.length c0_3) := hS_
 refine norm_ (a' := ?_) ?_ ?_
 rotate_left
 ·simp only [putAll, Act.put, List.setIfInBounds_toArray, List.set_cons_zero, List.set_cons_succ]
  rfl
 refine on 11 none (fun K hK => ?_)
 obtain ⟨hs19, hfs19⟩ := sd1 BK530.out
 have hns19_0 := NB525_530.out
 have hns19_1 := NB526_530.out
 have hns19_2 := NB527_530.out
 have hms19_0 := NB530_525.out
 have hms19_1 := NB530_526.out
 have hms19_2 := NB530_527.out
 have hs20 : w18.cell? ⟨gb530, 1, none⟩ = some (.int .i64 0) := (blk_cell BK530.out 1).trans rfl
 have hfs20 := blk_frozen BK530.out 1
 have hns20_0 := NB525_530.out
 have hns20_1 := NB526_530.out
 have hns20_2 := NB527_530.out
 have hms20_0 := NB530_525.out
 have hms20_1 := NB530_526.out
 have hms20_2 := NB530_527.out
 have hs21 : w18.cell? ⟨gb530, 2, none⟩ = some (.int .i64 0) := (blk_cell BK530.out 2).trans rfl
 have hfs21 := blk_frozen BK530.out 2
 have hns21_0 := NB525_530.out
 have hns21_1 := NB526_530.out
 have hns21_2 := NB527_530.out
 have hms21_0 := NB530_525.out
 have hms21_1 := NB530_526.out
 have hms21_2 := NB530_527.out
 have hs22 : w18.cell? ⟨gb530, 3, none⟩ = some (.int .i64 0) := (blk_cell BK530.out 3).trans rfl
 have hfs22 := blk_frozen BK530.out 3
 have hns22_0 := NB525_530.out
 have hns22_1 := NB526_530.out
 have hns22_2 := NB527_530.out
 have hms22_0 := NB530_525.out
 have hms22_1 := NB530_526.out
 have hms22_2 := NB530_527.out
 have hs23 : w18.cell? ⟨gb530, 4, none⟩ = some (.int .i64 0) := (blk_cell BK530.out 4).trans rfl
 have hfs23 := blk_frozen BK530.out 4
 have hns23_0 := NB525_530.out
 have hns23_1 := NB526_530.out
 have hns23_2 := NB527_530.out
 have hms23_0 := NB530_525.out
 have hms23_1 := NB530_526.out
 have hms23_2 := NB530_527.out
 have hs24 : w18.cell? ⟨gb530, 5, none⟩ = some (.int .i64 0) := (blk_cell BK530.out 5).trans rfl
 have hfs24 := blk_frozen BK530.out 5
 have hns24_0 := NB525_530.out
 have hns24_1 := NB526_530.out
 have hns24_2 := NB527_530.out
 have hms24_0 := NB530_525.out
 have hms24_1 := NB530_526.out
 have hms24_2 := NB530_527.out
 refine skip_ (w1 := ?_) (by rfl) rfl ?_ ?_
 rotate_left
 ·go_simp
  rfl
 refine hK.out _ _ ⟨((cell_far (p := ⟨gb530, _, none⟩) NB526_530.out _).trans (((cell_far (p := ⟨gb530, _, none⟩) NB526_530.out _).trans (((cell_far (p := ⟨gb530, _, none⟩) NB526_530.out _).trans (((cell_far (p := ⟨gb530, _, none⟩) NB526_530.out _).trans (((cell_far (p := ⟨gb530, _, none⟩) NB526_530.out _).trans (((cell_far (p := ⟨gb530, _, none⟩) NB526_530.out _).trans (hHeld.1)))))))))))), ((cell_far (p := ⟨gb530, _, none⟩) NB526_530.out _).trans (((cell_far (p := ⟨gb530, _, none⟩) NB526_530.out _).trans (((cell_far (p := ⟨gb530, _, none⟩) NB526_530.out _).trans (((cell_far (p := ⟨gb530, _, none⟩) NB526_530.out _).trans (((cell_far (p := ⟨gb530, _, none⟩) NB526_530.out _).trans (((cell_far (p := ⟨gb530, _, none⟩) NB526_530.out _).trans (hHeld.2.1)))))))))))), ((cell_far (p := ⟨gb530, _, none⟩) NB526_530.out _).trans (((cell_far (p := ⟨gb530, _, none⟩) NB526_530.out _).trans (((cell_far (p := ⟨gb530, _, none⟩) NB526_530.out _).trans (((cell_far (p := ⟨gb530, _, none⟩) NB526_530.out _).trans (((cell_far (p := ⟨gb530, _, none⟩) NB526_530.out _).trans (((cell_far (p := ⟨gb530, _, none⟩) NB526_530.out _).trans (hHeld.2.2.1)))))))))))), ((cell_far (p := ⟨gb530, _, none⟩) NB526_530.out _).trans (((cell_far (p := ⟨gb530, _, none⟩) NB526_530.out _).trans (((cell_far (p := ⟨gb530, _, none⟩) NB526_530.out _).trans (((cell_far (p := ⟨gb530, _, none⟩) NB526_530.out _).trans (((cell_far (p := ⟨gb530, _, none⟩) NB526_530.out _).trans (((cell_far (p := ⟨gb530, _, none⟩) NB526_530.out _).trans (hHeld.2.2.2.1)))))))))))), ((cell_far (p := ⟨gb530, _, none⟩) NB526_530.out _).trans (((cell_far (p := ⟨gb530, _, none⟩) NB526_530.out _).trans (((cell_far (p := ⟨gb530, _, none⟩) NB526_530.out _).trans (((cell_far (p := ⟨gb530, _, none⟩) NB526_530.out _).trans (((cell_far (p := ⟨gb530, _, none⟩) NB526_530.out _).trans (((cell_far (p := ⟨gb530, _, none⟩) NB526_530.out _).trans (hHeld.2.2.2.2.1)))))))))))), ((cell_far (p := ⟨gb530, _, none⟩) NB525_530.out _).trans (((cell_far (p := ⟨gb530, _, none⟩) NB525_530.out _).trans (((cell_far (p := ⟨gb530, _, none⟩) NB525_530.out _).trans (((cell_far (p := ⟨gb530, _, none⟩) NB525_530.out _).trans (((cell_far (p := ⟨gb530, _, none⟩) NB525_530.out _).trans (((cell_far (p := ⟨gb530, _, none⟩) NB525_530.out _).trans (hHeld.2.2.2.2.2.1)))))))))))), ((cell_far (p := ⟨gb530, _, none⟩) NB525_530.out _).trans (((cell_far (p := ⟨gb530, _, none⟩) NB525_530.out _).trans (((cell_far (p := ⟨gb530, _, none⟩) NB525_530.out _).trans (((cell_far (p := ⟨gb530, _, none⟩) NB525_530.out _).trans (((cell_far (p := ⟨gb530, _, none⟩) NB525_530.out _).trans (((cell_far (p := ⟨gb530, _, none⟩) NB525_530.out _).trans (hHeld.2.2.2.2.2.2.1)))))))))))), ((cell_far (p := ⟨gb530, _, none⟩) NB525_530.out _).trans (((cell_far (p := ⟨gb530, _, none⟩) NB525_530.out _).trans (((cell_far (p := ⟨gb530, _, none⟩) NB525_530.out _).trans (((cell_far (p := ⟨gb530, _, none⟩) NB525_530.out _).trans (((cell_far (p := ⟨gb530, _, none⟩) NB525_530.out _).trans (((cell_far (p := ⟨gb530, _, none⟩) NB525_530.out _).trans (hHeld.2.2.2.2.2.2.2.1)))))))))))), ((cell_far (p := ⟨gb530, _, none⟩) NB525_530.out _).trans (((cell_far (p := ⟨gb530, _, none⟩) NB525_530.out _).trans (((cell_far (p := ⟨gb530, _, none⟩) NB525_530.out _).trans (((cell_far (p := ⟨gb530, _, none⟩) NB525_530.out _).trans (((cell_far (p := ⟨gb530, _, none⟩) NB525_530.out _).trans (((cell_far (p := ⟨gb530, _, none⟩) NB525_530.out _).trans (hHeld.2.2.2.2.2.2.2.2))))))))))))⟩ (fun hHeld => ?_)
 clear hK K
 refine dn ?_
 go_upto_region 2 with (fail)
 go_cut [38] (fun v38 wc => ∃ (kq : Nat) (x38_9 : Bool), v38 = .bool x38_9 ∧ Aside0 (impl_HealthFact.j0 kq x38_9 3 a2_0 t528 1 a5 t529 = some (r1, r2, r3, r4, r5, r6, r7)) ∧ Aside0 (kq ≤ k) ∧ Aside0 (wc.heap[gb525]? = some (.cells #[.int .i64 a0_0, (.slice A0_1 l0_1.length c0_1), (.slice A0_2 l0_2.length c0_2), (.slice A0_3 l0_3.length c0_3)] 33 (0, 0))) ∧ Aside0 (wc.heap[gb526]? = some (.cells #[.int .i64 a2_0, .int .i64 a2_1, .int .i64 a2_2, .int .i64 a2_3, .int .i64 a2_4] 45 (0, 0))) ∧ Aside0 (wc.heap[gb527]? = some (.cells #[.int .i64 0, .int .i64 0, .int .i64 0, .int .i64 0, .int .i64 0, .int .i64 0] 83 (0, 0))) ∧ Aside0 (wc.heap[gb530]? = some (.cells #[.int .i64 3, .int .i64 a2_0, .int .i64 t528, .int .i64 1, .int .i64 a5, .int .i64 t529] 83 (0, 0))) ∧ Aside0 (Below w.heap.size w wc))
 case first =>
  have H := HC10.out
  clear HC10
  obtain ⟨t531, A25, H⟩ := bA H
  by_cases c26 : t531 = true
  ·subst c26
   replace H := iT H
   obtain ⟨t532, A27, H⟩ := bA H
   have H' := Aside0.mk H
   clear H
   have hnb28 := NB526_525.out
   have hnc28 := NB525_526.out
   have hnb29 := NB526_527.out
   have hnc29 := NB527_526.out
   have hnb30 := NB526_530.out
   have hnc30 := NB530_526.out
   obtain ⟨hcz31_0, hcz31_1, hcz31_2, hcz31_3, hcz31_4, hfz31_0, hfz31_1, hfz31_2, hfz31_3, hfz31_4⟩ := sd5 BK526.out
   go_wp2_with (first | ((with_reducible refine gate_callee (f := 38) rfl ?_); refine goesL_ (some 32) rfl rfl Try.func38 sqk rfl #[.int .i64 a1, .agg #[.int .i64 a2_0, .int .i64 a2_1, .int .i64 a2_2, .int .i64 a2_3, .int .i64 a2_4], .slice A3 l3.length c3, .int .i64 a4, .int .i64 a5, .int .i64 5] rfl sqm ?_; (with_reducible refine (impl_CheckQuote.calls k a1 a2_0 a2_1 a2_2 a2_3 a2_4 _ _ l3 a4 a5 5 true _ ?side1 ?side2 A25.out).mono ?_); (case side1 => exact Kd.C_below HR3.out sqh); (case side2 => exact HC3.out); rintro e w32 ⟨rfl, hb⟩; refine ⟨_, rfl, ?_⟩; replace BK525 := Aside0.mk (blk_below (g := gb525) (o := .cells #[.int .i64 a0_0, .slice A0_1 l0_1.length c0_1, .slice A0_2 l0_2.length c0_2, .slice A0_3 l0_3.length c0_3] 33 (0, 0)) (bp BK525) hb); replace BK526 := Aside0.mk (blk_below (g := gb526) (o := .cells #[.int .i64 a2_0, .int .i64 a2_1, .int .i64 a2_2, .int .i64 a2_3, .int .i64 a2_4] 45 (0, 0)) (bp BK526) hb); replace BK527 := Aside0.mk (blk_below (g := gb527) (o := .cells #[.int .i64 0, .int .i64 0, .int .i64 0, .int .i64 0, .int .i64 0, .int .i64 0] 83 (0, 0)) (bp BK527) hb); replace BK530 := Aside0.mk (blk_below (g := gb530) (o := .cells #[.int .i64 3, .int .i64 a2_0, .int .i64 t528, .int .i64 1, .int .i64 a5, .int .i64 t529] 83 (0, 0)) (bp BK530) hb); replace HB := Aside0.mk (below_step sqh hb); (try clear hb); have hnb33 := NB530_525.out; have hnc33 := NB525_530.out; have hnb34 := NB530_527.out; have hnc34 := NB527_530.out; obtain ⟨hcz35_0, hcz35_1, hcz35_2, hcz35_3, hcz35_4, hcz35_5, hfz35_0, hfz35_1, hfz35_2, hfz35_3, hfz35_4, hfz35_5⟩ := sd6 BK530.out) | (go_at_call 120; (with_reducible refine (impl_IsFact.calls 3 a2_0 t528 1 a5 t529 t532 _ A27.out).mono ?_); rintro e w36 ⟨rfl, hb⟩; replace BK525 := Aside0.mk (blk_below (bo BK525) hb); replace BK526 := Aside0.mk (blk_below (bo BK526) hb); replace BK527 := Aside0.mk (blk_below (bo BK527) hb); replace BK530 := Aside0.mk (blk_below (bo BK530) hb); replace HB := Aside0.mk (below_step sqh hb); (try clear hb)))
   go_meet
   case rel => exact ⟨_, (!t532), sqr, H', ⟨sqo⟩, ⟨sqb BK525.out⟩, ⟨sqb BK526.out⟩, ⟨sqb BK527.out⟩, ⟨sqb BK530.out⟩, ⟨sqh⟩⟩
  ·replace c26 := Bool.eq_false_iff.mpr c26
   subst c26
   replace H := iF H
   have H' := Aside0.mk H
   clear H
   have hnb37 := NB526_525.out
   have hnc37 := NB525_526.out
   have hnb38 := NB526_527.out
   have hnc38 := NB527_526.out
   have hnb39 := NB526_530.out
   have hnc39 := NB530_526.out
   obtain ⟨hcz40_0, hcz40_1, hcz40_2, hcz40_3, hcz40_4, hfz40_0, hfz40_1, hfz40_2, hfz40_3, hfz40_4⟩ := sd5 BK526.out
   go_wp2_with (first | ((with_reducible refine gate_callee (f := 38) rfl ?_); refine goesL_ (some 32) rfl rfl Try.func38 sqk rfl #[.int .i64 a1, .agg #[.int .i64 a2_0, .int .i64 a2_1, .int .i64 a2_2, .int .i64 a2_3, .int .i64 a2_4], .slice A3 l3.length c3, .int .i64 a4, .int .i64 a5, .int .i64 5] rfl sqm ?_; (with_reducible refine (impl_CheckQuote.calls k a1 a2_0 a2_1 a2_2 a2_3 a2_4 _ _ l3 a4 a5 5 false _ ?side1 ?side2 A25.out).mono ?_); (case side1 => exact Kd.C_below HR3.out sqh); (case side2 => exact HC3.out); rintro e w41 ⟨rfl, hb⟩; refine ⟨_, rfl, ?_⟩; replace BK525 := Aside0.mk (blk_below (g := gb525) (o := .cells #[.int .i64 a0_0, .slice A0_1 l0_1.length c0_1, .slice A0_2 l0_2.length c0_2, .slice A0_3 l0_3.length c0_3] 33 (0, 0)) (bp BK525) hb); replace BK526 := Aside0.mk (blk_below (g := gb526) (o := .cells #[.int .i64 a2_0, .int .i64 a2_1, .int .i64 a2_2, .int .i64 a2_3, .int .i64 a2_4] 45 (0, 0)) (bp BK526) hb); replace BK527 := Aside0.mk (blk_below (g := gb527) (o := .cells #[.int .i64 0, .int .i64 0, .int .i64 0, .int .i64 0, .int .i64 0, .int .i64 0] 83 (0, 0)) (bp BK527) hb); replace BK530 := Aside0.mk (blk_below (g := gb530) (o := .cells #[.int .i64 3, .int .i64 a2_0, .int .i64 t528, .int .i64 1, .int .i64 a5, .int .i64 t529] 83 (0, 0)) (bp BK530) hb); replace HB := Aside0.mk (below_step sqh hb); (try clear hb)))
   go_meet
   case rel => exact ⟨_, (true), sqr, H', ⟨sqo⟩, ⟨sqb BK525.out⟩, ⟨sqb BK526.out⟩, ⟨sqb BK527.out⟩, ⟨sqb BK530.out⟩, ⟨sqh⟩⟩
 case rest =>
  clear HC10; try clear c1; try clear c2; try clear p2; try clear c3; try clear c6; try clear c10; try clear c26; try clear c28; try clear c29; try clear c30; try clear c33; try clear c34; try clear c37; try clear c38; try clear c39; try clear hcz31_0; try clear hcz31_1; try clear hcz31_2; try clear hcz31_3; try clear hcz31_4; try clear hcz35_0; try clear hcz35_1; try clear hcz35_2; try clear hcz35_3; try clear hcz35_4; try clear hcz35_5; try clear hcz40_0; try clear hcz40_1; try clear hcz40_2; try clear hcz40_3; try clear hcz40_4; try clear hfz31_0; try clear hfz31_1; try clear hfz31_2; try clear hfz31_3; try clear hfz31_4; try clear hfz35_0; try clear hfz35_1; try clear hfz35_2; try clear hfz35_3; try clear hfz35_4; try clear hfz35_5; try clear hfz40_0; try clear hfz40_1; try clear hfz40_2; try clear hfz40_3; try clear hfz40_4
  obtain ⟨kq, x38_9, rfl, HA, HJ9, BK525, BK526, BK527, BK530, HB⟩ := hcut
  cases kq with
  | zero => exact absurd HA.out (by simp [impl_HealthFact.j0])
  | succ kj9 =>
   have H := HA.out
   clear HA
   simp only [impl_HealthFact.j0] at H
   by_cases c42 : x38_9 = true
   ·subst c42
    replace H := iT H
    simp only [Option.some.injEq, Prod.mk.injEq] at H
    obtain ⟨rfl, rfl, rfl, rfl, rfl, rfl, rfl⟩ := H
    have hnb43 := NB527_525.out
    have hnc43 := NB525_527.out
    have hnb44 := NB527_526.out
    have hnc44 := NB526_527.out
    have hnb45 := NB527_530.out
    have hnc45 := NB530_527.out
    obtain ⟨hcz46_0, hcz46_1, hcz46_2, hcz46_3, hcz46_4, hcz46_5, hfz46_0, hfz46_1, hfz46_2, hfz46_3, hfz46_4, hfz46_5⟩ := sd6 BK527.out
    go_wp2
    refine bodyPost_ret (results_ct rfl _ _ gb527 83 #[.int .i64 0, .int .i64 0, .int .i64 0, .int .i64 0, .int .i64 0, .int .i64 0] (0, 0) _ rfl ?_ Try.underlying83 rfl sqk) rfl ?_; exact bp BK527
    exact ⟨sqe, sqh⟩
   ·replace c42 := Bool.eq_false_iff.mpr c42
    subst c42
    replace H := iF H
    simp only [Option.some.injEq, Prod.mk.injEq] at H
    obtain ⟨rfl, rfl, rfl, rfl, rfl, rfl, rfl⟩ := H
    have hnb47 := NB530_525.out
    have hnc47 := NB525_530.out
    have hnb48 := NB530_526.out
    have hnc48 := NB526_530.out
    have hnb49 := NB530_527.out
    have hnc49 := NB527_530.out
    obtain ⟨hcz50_0, hcz50_1, hcz50_2, hcz50_3, hcz50_4, hcz50_5, hfz50_0, hfz50_1, hfz50_2, hfz50_3, hfz50_4, hfz50_5⟩ := sd6 BK530.out
    have hnb51 := NB527_525.out
    have hnc51 := NB525_527.out
    have hnb52 := NB527_526.out
    have hnc52 := NB526_527.out
    obtain ⟨hcz53_0, hcz53_1, hcz53_2, hcz53_3, hcz53_4, hcz53_5, hfz53_0, hfz53_1, hfz53_2, hfz53_3, hfz53_4, hfz53_5⟩ := sd6 BK527.out
    go_wp2
    refine bodyPost_ret (results_ct rfl _ _ gb527 83 #[.int .i64 3, .int .i64 a2_0, .int .i64 t528, .int .i64 1, .int .i64 a5, .int .i64 t529] (0, 0) _ rfl ?_ Try.underlying83 rfl sqk) rfl ?_; exact bp BK527
    exact ⟨sqe, sqh⟩

/-! ### impl_IsWithin: function 113 -/
def impl_IsWithin.f (a0 : Int) (a1 : Int) (a2 : Int) : Option (Bool) := (impl_IsTime.f a0).bind fun t533 => (if t533 = true then ((impl_IsTime.f a1).bind fun t534 => (if t534 = true then ((impl_IsTime.f a2).bind fun t535 => (if t535 = true then ((impl_InRange.f a2 a0 a1).bind fun t536 => (some t536)) else (some false))) else (some false))) else (some false))
set_option maxRecDepth 100000 in
theorem zl113 {Q : Prop} (g : Q := by go_enter Try.func113, Try.ntmps113; go_wp2_with (first | ((with_reducible refine gate_callee (f := 89) rfl ?_); refine goesL_ (some 8) rfl rfl Try.func89 sqk rfl #[.int .i64 a0] rfl sqm ?_; (with_reducible refine (impl_IsTime.calls a0 true _ A4.out).mono ?_); rintro e w' ⟨rfl, ⟨nd, rfl⟩⟩; refine ⟨_, rfl, ?_⟩) | (go_at_call 89; (with_reducible refine (impl_IsTime.calls a1 true _ A6.out).mono ?_); rintro e w' ⟨rfl, ⟨nd, rfl⟩⟩) | (go_at_call 89; (with_reducible refine (impl_IsTime.calls a2 true _ A8.out).mono ?_); rintro e w' ⟨rfl, ⟨nd, rfl⟩⟩) | (go_at_call 70; (with_reducible refine (impl_InRange.calls a2 a0 a1 t536 _ A10.out).mono ?_); rintro e w' ⟨rfl, ⟨nd, rfl⟩⟩) | (go_at_call 89; (with_reducible refine (impl_IsTime.calls a2 false _ A8.out).mono ?_); rintro e w' ⟨rfl, ⟨nd, rfl⟩⟩) | (go_at_call 89; (with_reducible refine (impl_IsTime.calls a1 false _ A6.out).mono ?_); rintro e w' ⟨rfl, ⟨nd, rfl⟩⟩) | ((with_reducible refine gate_callee (f := 89) rfl ?_); refine goesL_ (some 8) rfl rfl Try.func89 sqk rfl #[.int .i64 a0] rfl sqm ?_; (with_reducible refine (impl_IsTime.calls a0 false _ A4.out).mono ?_); rintro e w' ⟨rfl, ⟨nd, rfl⟩⟩; refine ⟨_, rfl, ?_⟩)); go_ret; exact ⟨sqr, by repeat (first | exact Drawn0.refl _ | apply Drawn0.step)⟩) : Q := g
set_option maxHeartbeats 8000000 in
set_option maxRecDepth 100000 in
theorem impl_IsWithin.calls (a0 : Int) (a1 : Int) (a2 : Int) (r : Bool) (w : World) (h : impl_IsWithin.f a0 a1 a2 = some r) :
  Calls Try.prog 113 #[.int .i64 a0, .int .i64 a1, .int .i64 a2] w fun e w' => e = .returned (.bool r) ∧ Drawn0 w w' := by
 have H : ((impl_IsTime.f a0).bind fun t533 => (if t533 = true then ((impl_IsTime.f a1).bind fun t534 => (if t534 = true then ((impl_IsTime.f a2).bind fun t535 => (if t535 = true then ((impl_InRange.f a2 a0 a1).bind fun t536 => (some t536)) else (some false))) else (some false))) else (some false))) = some r := h
 clear h
 obtain ⟨t533, A4, H⟩ := bA H
 by_cases c5 : t533 = true
 ·subst c5
  replace H := iT H
  obtain ⟨t534, A6, H⟩ := bA H
  by_cases c7 : t534 = true
  ·subst c7
   replace H := iT H
   obtain ⟨t535, A8, H⟩ := bA H
   by_cases c9 : t535 = true
   ·subst c9
    replace H := iT H
    obtain ⟨t536, A10, H⟩ := bA H
    obtain rfl := Option.some.inj H
    exact zl113
   ·replace c9 := Bool.eq_false_iff.mpr c9
    subst c9
    replace H := iF H
    obtain rfl := Option.some.inj H
    exact zl113
  ·replace c7 := Bool.eq_false_iff.mpr c7
   subst c7
   replace H := iF H
   obtain rfl := Option.some.inj H
   exact zl113
 ·replace c5 := Bool.eq_false_iff.mpr c5
  subst c5
  replace H := iF H
  obtain rfl := Option.some.inj H
  exact zl113

end Go.Proofs.Ytlmhemcpkmjkiaa.XFnAppraisal
