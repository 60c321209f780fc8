/- Written by this session's own program (wip/xprint, which runs over the kit's print): what the functions that the law reaches come to, each proved; and the law's row. Conditions: none. -/
import Derived.Test.YtabpgiebhgkfhaaUFnIssuersSq
import Derived.Test.YtabpgiebhgkfhaaUFnIssuersx0
import Derived.Test.YtabpgiebhgkfhaaUFnIssuersx1
import Derived.Test.YtabpgiebhgkfhaaUFnIssuersx10
import Derived.Test.YtabpgiebhgkfhaaUFnIssuersx12
namespace Go.Proofs.Ytabpgiebhgkfhaa.XFnIssuers
open Go.RowKit Go.Proofs.YtabpgiebhgkfhaaW.PrintWords Go.Proofs.YtabpgiebhgkfhaaW.PrintLast Go.Proofs.YtabpgiebhgkfhaaW.PrintMore Go.Proofs.YtabpgiebhgkfhaaSq
attribute [local go_sem] max2_int min2_int max_two min_two max_three min_three max_four min_four   -- for this text's walks alone
set_option linter.unusedVariables false
set_option linter.unusedSimpArgs false

attribute [local go_sem high] eqA76
/-! ### spec_IsBelieved: function 55 -/
def spec_IsBelieved.f (k : Nat) (l0 : List (S48)) (a1_0 : Int) (a1_1 : Int) (a1_2 : Int) (a1_3 : Int) (a1_4 : Int) (a1_5 : Int) (a1_6 : Int) : Option (Bool) := (spec_FindIssuer.f k l0 a1_3).bind fun t289 => (if t289 < 0 then (some false) else (if 0 ≤ t289 then (if t289 < (l0.length : Int) then ((spec_StateFact.f k ((rd_T48 l0 t289).f0) ((rd_T48 l0 t289).f1) ((rd_T48 l0 t289).f2) a1_0 a1_1 a1_2 a1_3 a1_4 a1_5).bind fun bt291 => (if bt291.2.2.2.2.2.2.2 = true then (some ((bt291.1 == a1_0 && (bt291.2.1 == a1_1 && (bt291.2.2.1 == a1_2 && (bt291.2.2.2.1 == a1_3 && (bt291.2.2.2.2.1 == a1_4 && (bt291.2.2.2.2.2.1 == a1_5)))))) && (bt291.2.2.2.2.2.2.1 == a1_6))) else (some false))) else (none)) else (none)))
def spec_IsBelieved.T4 : Bool × List (List Nat × List Nat) := (true, [([], []), ([], []), ([0, 1], [0, 1]), ([2], [2]), ([], []), ([4], [4]), ([3, 5], [3, 5]), ([6], [6]), ([7], [7]), ([7], [7]), ([], []), ([10, 8, 6, 0, 1, 2, 3, 4, 5, 6, 7, 8, 10], [8, 10]), ([9, 11, 0, 1, 2, 3, 4, 5, 6, 7, 8, 9, 10, 11], [9])])
def spec_IsBelieved.B4 : List Nat := [0, 0, 3, 7, 0, 16, 63, 127, 255, 255, 0, 1535, 4095]
theorem spec_IsBelieved.tab4 : rtab .any (opsOf Try.f55 4) = spec_IsBelieved.T4 := by kernel_rfl
theorem spec_IsBelieved.bits4 : waitsOk spec_IsBelieved.T4.2 spec_IsBelieved.B4 = true := by kernel_rfl
theorem z55_0 {Q : Prop} (g : Q := by first | exact Nat.ne_of_lt (Nat.lt_of_lt_of_le (by have := World.block_lt_of_cell? _ _ hw290_2; first | rwa [add_block] at this | exact this) GW299.out) | (rw [add_block]; exact Nat.ne_of_lt (Nat.lt_of_lt_of_le (by have := World.block_lt_of_cell? _ _ hw290_2; first | rwa [add_block] at this | exact this) GW299.out)) | (show (Addr.add _ _).block ≠ _; rw [add_block]; exact Nat.ne_of_lt (Nat.lt_of_lt_of_le (by have := World.block_lt_of_cell? _ _ hw290_2; first | rwa [add_block] at this | exact this) GW299.out)) | (dsimp only; exact Nat.ne_of_lt (Nat.lt_of_lt_of_le (by have := World.block_lt_of_cell? _ _ hw290_2; first | rwa [add_block] at this | exact this) GW299.out))) : Q := g
theorem z55_1 {Q : Prop} (g : Q := by first | exact Nat.ne_of_lt (Nat.lt_of_lt_of_le (by have := World.block_lt_of_cell? _ _ hw290_1; first | rwa [add_block] at this | exact this) GW299.out) | (rw [add_block]; exact Nat.ne_of_lt (Nat.lt_of_lt_of_le (by have := World.block_lt_of_cell? _ _ hw290_1; first | rwa [add_block] at this | exact this) GW299.out)) | (show (Addr.add _ _).block ≠ _; rw [add_block]; exact Nat.ne_of_lt (Nat.lt_of_lt_of_le (by have := World.block_lt_of_cell? _ _ hw290_1; first | rwa [add_block] at this | exact this) GW299.out)) | (dsimp only; exact Nat.ne_of_lt (Nat.lt_of_lt_of_le (by have := World.block_lt_of_cell? _ _ hw290_1; first | rwa [add_block] at this | exact this) GW299.out))) : Q := g
theorem z55_2 {Q : Prop} (g : Q := by first | exact Nat.ne_of_lt (Nat.lt_of_lt_of_le (by have := World.block_lt_of_cell? _ _ hw290_0; first | rwa [add_block] at this | exact this) GW299.out) | (rw [add_block]; exact Nat.ne_of_lt (Nat.lt_of_lt_of_le (by have := World.block_lt_of_cell? _ _ hw290_0; first | rwa [add_block] at this | exact this) GW299.out)) | (show (Addr.add _ _).block ≠ _; rw [add_block]; exact Nat.ne_of_lt (Nat.lt_of_lt_of_le (by have := World.block_lt_of_cell? _ _ hw290_0; first | rwa [add_block] at this | exact this) GW299.out)) | (dsimp only; exact Nat.ne_of_lt (Nat.lt_of_lt_of_le (by have := World.block_lt_of_cell? _ _ hw290_0; first | rwa [add_block] at this | exact this) GW299.out))) : Q := g
theorem z55_3 {Q : Prop} (g : Q := by rw [hg]; exact (below_size sqh)) : Q := g
theorem z55_4 {Q : Prop} (g : Q := by simp only [putAll, Act.put, List.setIfInBounds_toArray, List.set_cons_zero, List.set_cons_succ]) : Q := g
set_option maxHeartbeats 8000000 in
set_option maxRecDepth 100000 in
theorem spec_IsBelieved.calls (k : Nat) (A0 : Option Addr) (c0 : Nat) (l0 : List (S48)) (a1_0 : Int) (a1_1 : Int) (a1_2 : Int) (a1_3 : Int) (a1_4 : Int) (a1_5 : Int) (a1_6 : Int) (r : Bool) (w : World) (hr0 : Kd.C k48 w A0 l0.length l0) (hc0 : l0.length ≤ c0) (h : spec_IsBelieved.f k l0 a1_0 a1_1 a1_2 a1_3 a1_4 a1_5 a1_6 = some r) :
  Calls Try.prog 55 #[.slice A0 l0.length c0, .agg #[.int .i64 a1_0, .int .i64 a1_1, .int .i64 a1_2, .int .i64 a1_3, .int .i64 a1_4, .int .i64 a1_5, .int .i64 a1_6]] w fun e w' => e = .returned (.bool r) ∧ Below w.heap.size w w' := by
 have hu76 := Try.underlying76
 have hu48 := Try.underlying48
 have hu55 := Try.underlying55
 have HR0 := As_.mk hr0
 have HC0 := As_.mk hc0
 clear hr0 hc0
 have HB := As_.mk (Below.refl w.heap.size w)
 have H : ((spec_FindIssuer.f k l0 a1_3).bind fun t289 => (if t289 < 0 then (some false) else (if 0 ≤ t289 then (if t289 < (l0.length : Int) then ((spec_StateFact.f k ((rd_T48 l0 t289).f0) ((rd_T48 l0 t289).f1) ((rd_T48 l0 t289).f2) a1_0 a1_1 a1_2 a1_3 a1_4 a1_5).bind fun bt291 => (if bt291.2.2.2.2.2.2.2 = true then (some ((bt291.1 == a1_0 && (bt291.2.1 == a1_1 && (bt291.2.2.1 == a1_2 && (bt291.2.2.2.1 == a1_3 && (bt291.2.2.2.2.1 == a1_4 && (bt291.2.2.2.2.2.1 == a1_5)))))) && (bt291.2.2.2.2.2.2.1 == a1_6))) else (some false))) else (none)) else (none)))) = some r := h
 clear h
 obtain ⟨t289, A3, H⟩ := bA H
 by_cases c4 : t289 < 0
 ·rw [if_pos c4] at H
  have c4b0 : decide (t289 < 0) = true := decide_eq_true c4
  clear c4
  obtain rfl := Option.some.inj H
  go_enter Try.func55, Try.ntmps55
  go_wp2_with (first | ((with_reducible refine gate_dst (N := 3) rfl ?_); refine bx (N := 3) (cs := #[.int .i64 a1_0, .int .i64 a1_1, .int .i64 a1_2, .int .i64 a1_3, .int .i64 a1_4, .int .i64 a1_5, .int .i64 a1_6]) (t := 76) ?_; intro gb288 hg w5 hbox hb; have BK288 := As_.mk (hbox); have GW288 := As_.mk ((z55_3 : w.heap.size ≤ gb288)); have GE288 := As_.mk ((z55_3 : w.heap.size ≤ gb288)); replace HB := As_.mk (below_step sqh hb); clear hb hbox hg; obtain ⟨hcz6_0, hcz6_1, hcz6_2, hcz6_3, hcz6_4, hcz6_5, hcz6_6, hfz6_0, hfz6_1, hfz6_2, hfz6_3, hfz6_4, hfz6_5, hfz6_6⟩ := sd7 BK288.out) | ((with_reducible refine gate_callee (f := 42) rfl ?_); refine goesL_ (some 12) rfl rfl Try.func42 sqk rfl #[.slice A0 l0.length c0, .int .i64 a1_3] rfl sqm ?_; (with_reducible refine (spec_FindIssuer.calls k _ _ l0 a1_3 t289 _ ?side1 ?side2 A3.out).mono ?_); (case side1 => exact sqn (Kd.C_below HR0.out HB.out)); (case side2 => exact HC0.out); rintro e w' ⟨rfl, ⟨nd, rfl⟩⟩; refine ⟨_, rfl, ?_⟩))
  go_ret
  exact ⟨sqe, sqh⟩
 ·rw [if_neg c4] at H
  have c4b0 : decide (t289 < 0) = false := decide_eq_false c4
  clear c4
  by_cases c7 : 0 ≤ t289
  ·rw [if_pos c7] at H
   have c7b0 : decide (0 ≤ t289) = true := decide_eq_true c7
   clear c7
   by_cases c8 : t289 < (l0.length : Int)
   ·rw [if_pos c8] at H
    have c8b0 : decide (t289 < (l0.length : Int)) = true := decide_eq_true c8
    clear c8
    obtain ⟨⟨t291, t292, t293, t294, t295, t296, t297, t298⟩, A9, H⟩ := bA H
    dsimp only at H
    by_cases c10 : t298 = true
    ·subst c10
     replace H := iT H
     obtain rfl := Option.some.inj H
     go_enter Try.func55, Try.ntmps55
     try go_wp2_with (first | ((with_reducible refine gate_dst (N := 3) rfl ?_); refine bx (N := 3) (cs := #[.int .i64 a1_0, .int .i64 a1_1, .int .i64 a1_2, .int .i64 a1_3, .int .i64 a1_4, .int .i64 a1_5, .int .i64 a1_6]) (t := 76) ?_; intro gb288 hg w11 hbox hb; have BK288 := As_.mk (hbox); have GW288 := As_.mk ((z55_3 : w.heap.size ≤ gb288)); have GE288 := As_.mk ((z55_3 : w.heap.size ≤ gb288)); replace HB := As_.mk (below_step sqh hb); clear hb hbox hg; obtain ⟨hcz12_0, hcz12_1, hcz12_2, hcz12_3, hcz12_4, hcz12_5, hcz12_6, hfz12_0, hfz12_1, hfz12_2, hfz12_3, hfz12_4, hfz12_5, hfz12_6⟩ := sd7 BK288.out) | ((with_reducible refine gate_callee (f := 42) rfl ?_); refine goesL_ (some 12) rfl rfl Try.func42 sqk rfl #[.slice A0 l0.length c0, .int .i64 a1_3] rfl sqm ?_; (with_reducible refine (spec_FindIssuer.calls k _ _ l0 a1_3 t289 _ ?side1 ?side2 A3.out).mono ?_); (case side1 => exact sqn (Kd.C_below HR0.out HB.out)); (case side2 => exact HC0.out); rintro e w' ⟨rfl, ⟨nd, rfl⟩⟩; refine ⟨_, rfl, ?_⟩; (try (rw [drewN_self w11]; generalize hq_ : World.drewN w11 _ = w11; have n0_ : As_ (w11.heap[gb288]? = some (.cells #[.int .i64 a1_0, .int .i64 a1_1, .int .i64 a1_2, .int .i64 a1_3, .int .i64 a1_4, .int .i64 a1_5, .int .i64 a1_6] 76 (0, 0))) := ⟨by rw [← hq_]; exact (sqb BK288.out)⟩; have n1_ : As_ (Below w.heap.size w w11) := ⟨by rw [← hq_]; exact sqh⟩; clear BK288 HB hq_; have BK288 := n0_; have HB := n1_; clear n0_ n1_; have hcz12_0 : w11.cell? ⟨gb288, 0, none⟩ = some (.int .i64 a1_0) := (bC_ BK288.out 0).trans rfl; have hcz12_1 : w11.cell? ⟨gb288, 1, none⟩ = some (.int .i64 a1_1) := (bC_ BK288.out 1).trans rfl; have hcz12_2 : w11.cell? ⟨gb288, 2, none⟩ = some (.int .i64 a1_2) := (bC_ BK288.out 2).trans rfl; have hcz12_3 : w11.cell? ⟨gb288, 3, none⟩ = some (.int .i64 a1_3) := (bC_ BK288.out 3).trans rfl; have hcz12_4 : w11.cell? ⟨gb288, 4, none⟩ = some (.int .i64 a1_4) := (bC_ BK288.out 4).trans rfl; have hcz12_5 : w11.cell? ⟨gb288, 5, none⟩ = some (.int .i64 a1_5) := (bC_ BK288.out 5).trans rfl; have hcz12_6 : w11.cell? ⟨gb288, 6, none⟩ = some (.int .i64 a1_6) := (bC_ BK288.out 6).trans rfl; have hfz12_0 := bF_ BK288.out 0; have hfz12_1 := bF_ BK288.out 1; have hfz12_2 := bF_ BK288.out 2; have hfz12_3 := bF_ BK288.out 3; have hfz12_4 := bF_ BK288.out 4; have hfz12_5 := bF_ BK288.out 5; have hfz12_6 := bF_ BK288.out 6))))
     replace BK288 := As_.mk (blk_drew BK288.out)
     replace HB := As_.mk (bD_ HB.out)
     have p290 : 0 ≤ (t289 : Int) := of_decide_eq_true sqs
     have q290 : t289 < (l0.length : Int) := of_decide_eq_true sqs
     obtain ⟨ad290, A290_1, c290_1, e290, hx290_0, hx290_1, hx290_2, hl290_1, hi290_1⟩ := at_T48 HR0.out t289 p290 q290
     have hw290_2 := hx290_2; have hw290_1 := hx290_1; have hw290_0 := hx290_0
     cases e290
     replace hx290_0 := cl HB hx290_0; replace hx290_1 := cl HB hx290_1; replace hx290_2 := cl HB hx290_2
     have HR290_1 := As_.mk hi290_1
     have HC290_1 := As_.mk hl290_1
     clear hi290_1 hl290_1
     replace p290 := eq_true p290
     replace q290 := eq_true q290
     refine start_ (n := 13) (S := fun w' => w'.cell? ⟨gb288, 0, none⟩ = some (.int .i64 a1_0) ∧ w'.cell? ⟨gb288, 1, none⟩ = some (.int .i64 a1_1) ∧ w'.cell? ⟨gb288, 2, none⟩ = some (.int .i64 a1_2) ∧ w'.cell? ⟨gb288, 3, none⟩ = some (.int .i64 a1_3) ∧ w'.cell? ⟨gb288, 4, none⟩ = some (.int .i64 a1_4) ∧ w'.cell? ⟨gb288, 5, none⟩ = some (.int .i64 a1_5) ∧ w'.cell? ⟨gb288, 6, none⟩ = some (.int .i64 a1_6) ∧ w'.cell? (ad290.add ((t289).toNat * 3)) = some (.int .i64 ((rd_T48 l0 t289).f0)) ∧ w'.cell? ⟨(ad290.add ((t289).toNat * 3)).block, (ad290.add ((t289).toNat * 3)).off + 1, none⟩ = some (.slice A290_1 ((rd_T48 l0 t289).f1).length c290_1) ∧ w'.cell? ⟨(ad290.add ((t289).toNat * 3)).block, (ad290.add ((t289).toNat * 3)).off + 2, none⟩ = some (.int .i64 ((rd_T48 l0 t289).f2))) (ds := []) #[false, false, false, false, false, false, false, false, false, false, false, false, false] sqk rfl rfl (sa7 BK288.out ⟨(cl HB hw290_0), (cl HB hw290_1), (cl HB hw290_2)⟩) (fun hHeld => ?_); refine with_tabW spec_IsBelieved.tab4 spec_IsBelieved.bits4 (fun HT_ HW_ => ?_)
     generalize w11.drew = w13 at BK288 HB HR290_1 hx290_0 hx290_1 hx290_2 hHeld ⊢
     refine pu 0 16 ?_; refine pu 1 17 ?_; refine pu 2 18 ?_; refine pu 4 20 ?_; refine ta 3 19 ?_; refine ta 5 21 ?_
     refine join_ (σ := Nat) 2 #[true, true, true, true, true, true, true, true, true, true, true, false, false] (fun s_ => [(22, .tuple #[.agg #[.int .i64 t291, .int .i64 t292, .int .i64 t293, .int .i64 t294, .int .i64 t295, .int .i64 t296, .int .i64 t297], .bool true]), (6, .pointer (some ⟨s_, 0, none⟩)), (15, .tuple #[.agg #[.int .i64 t291, .int .i64 t292, .int .i64 t293, .int .i64 t294, .int .i64 t295, .int .i64 t296, .int .i64 t297], .bool true]), (23, .agg #[.int .i64 t291, .int .i64 t292, .int .i64 t293, .int .i64 t294, .int .i64 t295, .int .i64 t296, .int .i64 t297]), (24, .bool true)]) (fun s_ w' => (w'.cell? ⟨gb288, 0, none⟩ = some (.int .i64 a1_0) ∧ w'.cell? ⟨gb288, 1, none⟩ = some (.int .i64 a1_1) ∧ w'.cell? ⟨gb288, 2, none⟩ = some (.int .i64 a1_2) ∧ w'.cell? ⟨gb288, 3, none⟩ = some (.int .i64 a1_3) ∧ w'.cell? ⟨gb288, 4, none⟩ = some (.int .i64 a1_4) ∧ w'.cell? ⟨gb288, 5, none⟩ = some (.int .i64 a1_5) ∧ w'.cell? ⟨gb288, 6, none⟩ = some (.int .i64 a1_6) ∧ w'.cell? (ad290.add ((t289).toNat * 3)) = some (.int .i64 ((rd_T48 l0 t289).f0)) ∧ w'.cell? ⟨(ad290.add ((t289).toNat * 3)).block, (ad290.add ((t289).toNat * 3)).off + 1, none⟩ = some (.slice A290_1 ((rd_T48 l0 t289).f1).length c290_1) ∧ w'.cell? ⟨(ad290.add ((t289).toNat * 3)).block, (ad290.add ((t289).toNat * 3)).off + 2, none⟩ = some (.int .i64 ((rd_T48 l0 t289).f2))) ∧ (w'.heap[gb288]? = some (.cells #[.int .i64 a1_0, .int .i64 a1_1, .int .i64 a1_2, .int .i64 a1_3, .int .i64 a1_4, .int .i64 a1_5, .int .i64 a1_6] 76 (0, 0))) ∧ (w'.heap[s_]? = some (.cells #[.int .i64 0, .int .i64 0, .int .i64 0, .int .i64 0, .int .i64 0, .int .i64 0, .int .i64 0] 76 (0, 0))) ∧ (w.heap.size ≤ s_) ∧ (w.heap.size ≤ s_) ∧ (gb288 ≠ s_) ∧ (s_ ≠ gb288) ∧ (Below w.heap.size w w')) ?_ ?_
     rotate_left
     ·intro hCont
      refine two_ (i := 6) (j := 10) (Ni := some 22) (Nj := some 6) #[true, true, true, true, true, true, true, false, false, false, false, false, false] #[true, true, true, true, true, true, false, false, false, false, true, false, false] rfl rfl rfl rfl (two_of HT_.out sqk) (by decide) (by decide) (fun K hK => ?_) (fun K hK => ?_)
      ·skip
       refine goes_ Try.func52 sqk rfl #[.agg #[.int .i64 ((rd_T48 l0 t289).f0), .slice A290_1 ((rd_T48 l0 t289).f1).length c290_1, .int .i64 ((rd_T48 l0 t289).f2)], .agg #[.int .i64 a1_0, .int .i64 a1_1, .int .i64 a1_2, .int .i64 a1_3, .int .i64 a1_4, .int .i64 a1_5]] (by rfl) rfl rfl sqm ?_
       with_reducible refine (spec_StateFact.calls k ((rd_T48 l0 t289).f0) _ _ ((rd_T48 l0 t289).f1) ((rd_T48 l0 t289).f2) a1_0 a1_1 a1_2 a1_3 a1_4 a1_5 t291 t292 t293 t294 t295 t296 t297 true _ ?side1 ?side2 A9.out).mono ?_
       (case side1 => repeat (first | exact (Kd.C_below HR290_1.out HB.out) | (with_reducible refine Kd.C_alloc ?_ _) | (with_reducible refine Kd.C_drewN ?_ _) | (with_reducible refine Kd.C_drew ?_)))
       (case side2 => exact HC290_1.out)
       rintro e w14 ⟨rfl, hb⟩
       refine ⟨_, rfl, ?_⟩
       replace BK288 := As_.mk (blk_below (bo BK288) hb)
       replace HB := As_.mk (below_step sqh hb)
       (try clear hb)
       (try clear hb2)
       (try clear hk)
       (try clear hi)
       refine hK.out _ _ (sa7 BK288.out ⟨(cl HB hw290_0), (cl HB hw290_1), (cl HB hw290_2)⟩) (fun hHeld => ?_)
       clear hK K; refine no 22 ?_; refine pu 7 15 ?_; refine pu 8 23 ?_; refine pu 9 24 ?_
       refine on 10 (some 6) (fun K hK => ?_)
       refine box_step ?hg (N := 6) ?hd (cs := #[.int .i64 0, .int .i64 0, .int .i64 0, .int .i64 0, .int .i64 0, .int .i64 0, .int .i64 0]) (t := 76) ?hr ?_; (case hd => rfl); (case hg => rfl); (case hr => first | (go_simp; done) | (go_simp; rfl))
       intro gb299 hg w15 hbox hb
       have BK299 := As_.mk (hbox)
       have GW299 := As_.mk ((z55_3 : w.heap.size ≤ gb299))
       have GE299 := As_.mk ((z55_3 : w.heap.size ≤ gb299))
       replace HB := As_.mk (below_step sqh hb)
       have NB288_299 := As_.mk ((by rw [hg]; exact Nat.ne_of_lt (blk_lt (bo BK288)) : gb288 ≠ gb299))
       have NB299_288 := As_.mk ((by rw [hg]; exact Nat.ne_of_gt (blk_lt (bo BK288)) : gb299 ≠ gb288))
       replace BK288 := As_.mk (blk_below (bo BK288) hb)
       clear hb hbox hg
       refine hK.out _ _ (sa7 BK288.out ⟨(cl HB hw290_0), (cl HB hw290_1), (cl HB hw290_2)⟩) (fun hHeld => ?_)
       clear hK K; refine no 6 ?_
       exact norm_ z55_4 (hCont (gb299) _ ⟨hHeld, (sqb BK288.out), (sqb BK299.out), GW299.out, GE299.out, NB288_299.out, NB299_288.out, sqh⟩)
      ·skip
       refine box_step ?hg (N := 6) ?hd (cs := #[.int .i64 0, .int .i64 0, .int .i64 0, .int .i64 0, .int .i64 0, .int .i64 0, .int .i64 0]) (t := 76) ?hr ?_; (case hd => rfl); (case hg => rfl); (case hr => first | (go_simp; done) | (go_simp; rfl))
       intro gb299 hg w14 hbox hb
       have BK299 := As_.mk (hbox)
       have GW299 := As_.mk ((z55_3 : w.heap.size ≤ gb299))
       have GE299 := As_.mk ((z55_3 : w.heap.size ≤ gb299))
       replace HB := As_.mk (below_step sqh hb)
       have NB288_299 := As_.mk ((by rw [hg]; exact Nat.ne_of_lt (blk_lt (bo BK288)) : gb288 ≠ gb299))
       have NB299_288 := As_.mk ((by rw [hg]; exact Nat.ne_of_gt (blk_lt (bo BK288)) : gb299 ≠ gb288))
       replace BK288 := As_.mk (blk_below (bo BK288) hb)
       clear hb hbox hg
       refine hK.out _ _ (sa7 BK288.out ⟨(cl HB hw290_0), (cl HB hw290_1), (cl HB hw290_2)⟩) (fun hHeld => ?_)
       clear hK K; refine no 6 ?_
       refine on 6 (some 22) (fun K hK => ?_)
       refine goes_ Try.func52 sqk rfl #[.agg #[.int .i64 ((rd_T48 l0 t289).f0), .slice A290_1 ((rd_T48 l0 t289).f1).length c290_1, .int .i64 ((rd_T48 l0 t289).f2)], .agg #[.int .i64 a1_0, .int .i64 a1_1, .int .i64 a1_2, .int .i64 a1_3, .int .i64 a1_4, .int .i64 a1_5]] (by rfl) rfl rfl sqm ?_
       with_reducible refine (spec_StateFact.calls k ((rd_T48 l0 t289).f0) _ _ ((rd_T48 l0 t289).f1) ((rd_T48 l0 t289).f2) a1_0 a1_1 a1_2 a1_3 a1_4 a1_5 t291 t292 t293 t294 t295 t296 t297 true _ ?side1 ?side2 A9.out).mono ?_
       (case side1 => repeat (first | exact (Kd.C_below HR290_1.out HB.out) | (with_reducible refine Kd.C_alloc ?_ _) | (with_reducible refine Kd.C_drewN ?_ _) | (with_reducible refine Kd.C_drew ?_)))
       (case side2 => exact HC290_1.out)
       rintro e w15 ⟨rfl, hb⟩
       refine ⟨_, rfl, ?_⟩
       replace BK288 := As_.mk (blk_below (bo BK288) hb)
       replace BK299 := As_.mk (blk_below (bo BK299) hb)
       replace HB := As_.mk (below_step sqh hb)
       (try clear hb)
       (try clear hb2)
       (try clear hk)
       (try clear hi)
       refine hK.out _ _ (sa7 BK288.out ⟨(cl HB hw290_0), (cl HB hw290_1), (cl HB hw290_2)⟩) (fun hHeld => ?_)
       clear hK K; refine no 22 ?_; refine pu 7 15 ?_; refine pu 8 23 ?_; refine pu 9 24 ?_
       exact norm_ z55_4 (hCont (gb299) _ ⟨hHeld, (sqb BK288.out), (sqb BK299.out), GW299.out, GE299.out, NB288_299.out, NB299_288.out, sqh⟩)
     rintro gb299 w16 ⟨hS_, h0_, h1_, h2_, h3_, h4_, h5_, h6_⟩
     have n0_ : As_ (w16.heap[gb288]? = some (.cells #[.int .i64 a1_0, .int .i64 a1_1, .int .i64 a1_2, .int .i64 a1_3, .int .i64 a1_4, .int .i64 a1_5, .int .i64 a1_6] 76 (0, 0))) := ⟨h0_⟩
     have n1_ : As_ (w16.heap[gb299]? = some (.cells #[.int .i64 0, .int .i64 0, .int .i64 0, .int .i64 0, .int .i64 0, .int .i64 0, .int .i64 0] 76 (0, 0))) := ⟨h1_⟩
     have n2_ : As_ (w.heap.size ≤ gb299) := ⟨h2_⟩
     have n3_ : As_ (w.heap.size ≤ gb299) := ⟨h3_⟩
     have n4_ : As_ (gb288 ≠ gb299) := ⟨h4_⟩
     have n5_ : As_ (gb299 ≠ gb288) := ⟨h5_⟩
     have n6_ : As_ (Below w.heap.size w w16) := ⟨h6_⟩
     clear BK288; clear HB; clear h0_ h1_ h2_ h3_ h4_ h5_ h6_
     have BK288 := n0_
     have BK299 := n1_
     have GW299 := n2_
     have GE299 := n3_
     have NB288_299 := n4_
     have NB299_288 := n5_
     have HB := n6_
     clear n0_ n1_ n2_ n3_ n4_ n5_ n6_
     have hHeld : w16.cell? ⟨gb288, 0, none⟩ = some (.int .i64 a1_0) ∧ w16.cell? ⟨gb288, 1, none⟩ = some (.int .i64 a1_1) ∧ w16.cell? ⟨gb288, 2, none⟩ = some (.int .i64 a1_2) ∧ w16.cell? ⟨gb288, 3, none⟩ = some (.int .i64 a1_3) ∧ w16.cell? ⟨gb288, 4, none⟩ = some (.int .i64 a1_4) ∧ w16.cell? ⟨gb288, 5, none⟩ = some (.int .i64 a1_5) ∧ w16.cell? ⟨gb288, 6, none⟩ = some (.int .i64 a1_6) ∧ w16.cell? (ad290.add ((t289).toNat * 3)) = some (.int .i64 ((rd_T48 l0 t289).f0)) ∧ w16.cell? ⟨(ad290.add ((t289).toNat * 3)).block, (ad290.add ((t289).toNat * 3)).off + 1, none⟩ = some (.slice A290_1 ((rd_T48 l0 t289).f1).length c290_1) ∧ w16.cell? ⟨(ad290.add ((t289).toNat * 3)).block, (ad290.add ((t289).toNat * 3)).off + 2, none⟩ = some (.int .i64 ((rd_T48 l0 t289).f2)) := hS_
     refine norm_ (a' := ?_) ?_ ?_
     rotate_left
     ·simp only [putAll, Act.put, List.setIfInBounds_toArray, List.set_cons_zero, List.set_cons_succ]
      rfl
     refine on 11 none (fun K hK => ?_)
     obtain ⟨hs17, hfs17⟩ := sd1 BK299.out
     have hns17_0 := NB288_299.out
     have hms17_0 := NB299_288.out
     have hs18 : w16.cell? ⟨gb299, 1, none⟩ = some (.int .i64 0) := (bC_ BK299.out 1).trans rfl
     have hfs18 := bF_ BK299.out 1
     have hns18_0 := NB288_299.out
     have hms18_0 := NB299_288.out
     have hs19 : w16.cell? ⟨gb299, 2, none⟩ = some (.int .i64 0) := (bC_ BK299.out 2).trans rfl
     have hfs19 := bF_ BK299.out 2
     have hns19_0 := NB288_299.out
     have hms19_0 := NB299_288.out
     have hs20 : w16.cell? ⟨gb299, 3, none⟩ = some (.int .i64 0) := (bC_ BK299.out 3).trans rfl
     have hfs20 := bF_ BK299.out 3
     have hns20_0 := NB288_299.out
     have hms20_0 := NB299_288.out
     have hs21 : w16.cell? ⟨gb299, 4, none⟩ = some (.int .i64 0) := (bC_ BK299.out 4).trans rfl
     have hfs21 := bF_ BK299.out 4
     have hns21_0 := NB288_299.out
     have hms21_0 := NB299_288.out
     have hs22 : w16.cell? ⟨gb299, 5, none⟩ = some (.int .i64 0) := (bC_ BK299.out 5).trans rfl
     have hfs22 := bF_ BK299.out 5
     have hns22_0 := NB288_299.out
     have hms22_0 := NB299_288.out
     have hs23 : w16.cell? ⟨gb299, 6, none⟩ = some (.int .i64 0) := (bC_ BK299.out 6).trans rfl
     have hfs23 := bF_ BK299.out 6
     have hns23_0 := NB288_299.out
     have hms23_0 := NB299_288.out
     refine skip_ (w1 := ?_) (by rfl) rfl ?_ ?_
     rotate_left
     ·go_simp
      rfl
     refine hK.out _ _ ⟨((cell_far (p := ⟨gb299, _, none⟩) NB288_299.out _).trans (((cell_far (p := ⟨gb299, _, none⟩) NB288_299.out _).trans (((cell_far (p := ⟨gb299, _, none⟩) NB288_299.out _).trans (((cell_far (p := ⟨gb299, _, none⟩) NB288_299.out _).trans (((cell_far (p := ⟨gb299, _, none⟩) NB288_299.out _).trans (((cell_far (p := ⟨gb299, _, none⟩) NB288_299.out _).trans (((cell_far (p := ⟨gb299, _, none⟩) NB288_299.out _).trans (hHeld.1)))))))))))))), ((cell_far (p := ⟨gb299, _, none⟩) NB288_299.out _).trans (((cell_far (p := ⟨gb299, _, none⟩) NB288_299.out _).trans (((cell_far (p := ⟨gb299, _, none⟩) NB288_299.out _).trans (((cell_far (p := ⟨gb299, _, none⟩) NB288_299.out _).trans (((cell_far (p := ⟨gb299, _, none⟩) NB288_299.out _).trans (((cell_far (p := ⟨gb299, _, none⟩) NB288_299.out _).trans (((cell_far (p := ⟨gb299, _, none⟩) NB288_299.out _).trans (hHeld.2.1)))))))))))))), ((cell_far (p := ⟨gb299, _, none⟩) NB288_299.out _).trans (((cell_far (p := ⟨gb299, _, none⟩) NB288_299.out _).trans (((cell_far (p := ⟨gb299, _, none⟩) NB288_299.out _).trans (((cell_far (p := ⟨gb299, _, none⟩) NB288_299.out _).trans (((cell_far (p := ⟨gb299, _, none⟩) NB288_299.out _).trans (((cell_far (p := ⟨gb299, _, none⟩) NB288_299.out _).trans (((cell_far (p := ⟨gb299, _, none⟩) NB288_299.out _).trans (hHeld.2.2.1)))))))))))))), ((cell_far (p := ⟨gb299, _, none⟩) NB288_299.out _).trans (((cell_far (p := ⟨gb299, _, none⟩) NB288_299.out _).trans (((cell_far (p := ⟨gb299, _, none⟩) NB288_299.out _).trans (((cell_far (p := ⟨gb299, _, none⟩) NB288_299.out _).trans (((cell_far (p := ⟨gb299, _, none⟩) NB288_299.out _).trans (((cell_far (p := ⟨gb299, _, none⟩) NB288_299.out _).trans (((cell_far (p := ⟨gb299, _, none⟩) NB288_299.out _).trans (hHeld.2.2.2.1)))))))))))))), ((cell_far (p := ⟨gb299, _, none⟩) NB288_299.out _).trans (((cell_far (p := ⟨gb299, _, none⟩) NB288_299.out _).trans (((cell_far (p := ⟨gb299, _, none⟩) NB288_299.out _).trans (((cell_far (p := ⟨gb299, _, none⟩) NB288_299.out _).trans (((cell_far (p := ⟨gb299, _, none⟩) NB288_299.out _).trans (((cell_far (p := ⟨gb299, _, none⟩) NB288_299.out _).trans (((cell_far (p := ⟨gb299, _, none⟩) NB288_299.out _).trans (hHeld.2.2.2.2.1)))))))))))))), ((cell_far (p := ⟨gb299, _, none⟩) NB288_299.out _).trans (((cell_far (p := ⟨gb299, _, none⟩) NB288_299.out _).trans (((cell_far (p := ⟨gb299, _, none⟩) NB288_299.out _).trans (((cell_far (p := ⟨gb299, _, none⟩) NB288_299.out _).trans (((cell_far (p := ⟨gb299, _, none⟩) NB288_299.out _).trans (((cell_far (p := ⟨gb299, _, none⟩) NB288_299.out _).trans (((cell_far (p := ⟨gb299, _, none⟩) NB288_299.out _).trans (hHeld.2.2.2.2.2.1)))))))))))))), ((cell_far (p := ⟨gb299, _, none⟩) NB288_299.out _).trans (((cell_far (p := ⟨gb299, _, none⟩) NB288_299.out _).trans (((cell_far (p := ⟨gb299, _, none⟩) NB288_299.out _).trans (((cell_far (p := ⟨gb299, _, none⟩) NB288_299.out _).trans (((cell_far (p := ⟨gb299, _, none⟩) NB288_299.out _).trans (((cell_far (p := ⟨gb299, _, none⟩) NB288_299.out _).trans (((cell_far (p := ⟨gb299, _, none⟩) NB288_299.out _).trans (hHeld.2.2.2.2.2.2.1)))))))))))))), ((cell_far (p := ⟨gb299, _, none⟩) z55_2 _).trans (((cell_far (p := ⟨gb299, _, none⟩) z55_2 _).trans (((cell_far (p := ⟨gb299, _, none⟩) z55_2 _).trans (((cell_far (p := ⟨gb299, _, none⟩) z55_2 _).trans (((cell_far (p := ⟨gb299, _, none⟩) z55_2 _).trans (((cell_far (p := ⟨gb299, _, none⟩) z55_2 _).trans (((cell_far (p := ⟨gb299, _, none⟩) z55_2 _).trans (hHeld.2.2.2.2.2.2.2.1)))))))))))))), ((cell_far (p := ⟨gb299, _, none⟩) z55_1 _).trans (((cell_far (p := ⟨gb299, _, none⟩) z55_1 _).trans (((cell_far (p := ⟨gb299, _, none⟩) z55_1 _).trans (((cell_far (p := ⟨gb299, _, none⟩) z55_1 _).trans (((cell_far (p := ⟨gb299, _, none⟩) z55_1 _).trans (((cell_far (p := ⟨gb299, _, none⟩) z55_1 _).trans (((cell_far (p := ⟨gb299, _, none⟩) z55_1 _).trans (hHeld.2.2.2.2.2.2.2.2.1)))))))))))))), ((cell_far (p := ⟨gb299, _, none⟩) z55_0 _).trans (((cell_far (p := ⟨gb299, _, none⟩) z55_0 _).trans (((cell_far (p := ⟨gb299, _, none⟩) z55_0 _).trans (((cell_far (p := ⟨gb299, _, none⟩) z55_0 _).trans (((cell_far (p := ⟨gb299, _, none⟩) z55_0 _).trans (((cell_far (p := ⟨gb299, _, none⟩) z55_0 _).trans (((cell_far (p := ⟨gb299, _, none⟩) z55_0 _).trans (hHeld.2.2.2.2.2.2.2.2.2))))))))))))))⟩ (fun hHeld => ?_)
     clear hK K; refine pu 12 7 ?_
     refine dn ?_
     have hnb24 := NB299_288.out
     have hnc24 := NB288_299.out
     obtain ⟨hcz25_0, hcz25_1, hcz25_2, hcz25_3, hcz25_4, hcz25_5, hcz25_6, hfz25_0, hfz25_1, hfz25_2, hfz25_3, hfz25_4, hfz25_5, hfz25_6⟩ := sd7 BK299.out
     obtain ⟨hcz26_0, hcz26_1, hcz26_2, hcz26_3, hcz26_4, hcz26_5, hcz26_6, hfz26_0, hfz26_1, hfz26_2, hfz26_3, hfz26_4, hfz26_5, hfz26_6⟩ := sd7 BK288.out
     try go_wp2
     go_ret
     exact ⟨sqe, sqh⟩
    ·replace c10 := Bool.eq_false_iff.mpr c10
     subst c10
     replace H := iF H
     obtain rfl := Option.some.inj H
     go_enter Try.func55, Try.ntmps55
     try go_wp2_with (first | ((with_reducible refine gate_dst (N := 3) rfl ?_); refine bx (N := 3) (cs := #[.int .i64 a1_0, .int .i64 a1_1, .int .i64 a1_2, .int .i64 a1_3, .int .i64 a1_4, .int .i64 a1_5, .int .i64 a1_6]) (t := 76) ?_; intro gb288 hg w27 hbox hb; have BK288 := As_.mk (hbox); have GW288 := As_.mk ((z55_3 : w.heap.size ≤ gb288)); have GE288 := As_.mk ((z55_3 : w.heap.size ≤ gb288)); replace HB := As_.mk (below_step sqh hb); clear hb hbox hg; obtain ⟨hcz28_0, hcz28_1, hcz28_2, hcz28_3, hcz28_4, hcz28_5, hcz28_6, hfz28_0, hfz28_1, hfz28_2, hfz28_3, hfz28_4, hfz28_5, hfz28_6⟩ := sd7 BK288.out) | ((with_reducible refine gate_callee (f := 42) rfl ?_); refine goesL_ (some 12) rfl rfl Try.func42 sqk rfl #[.slice A0 l0.length c0, .int .i64 a1_3] rfl sqm ?_; (with_reducible refine (spec_FindIssuer.calls k _ _ l0 a1_3 t289 _ ?side1 ?side2 A3.out).mono ?_); (case side1 => exact sqn (Kd.C_below HR0.out HB.out)); (case side2 => exact HC0.out); rintro e w' ⟨rfl, ⟨nd, rfl⟩⟩; refine ⟨_, rfl, ?_⟩; (try (rw [drewN_self w27]; generalize hq_ : World.drewN w27 _ = w27; have n0_ : As_ (w27.heap[gb288]? = some (.cells #[.int .i64 a1_0, .int .i64 a1_1, .int .i64 a1_2, .int .i64 a1_3, .int .i64 a1_4, .int .i64 a1_5, .int .i64 a1_6] 76 (0, 0))) := ⟨by rw [← hq_]; exact (sqb BK288.out)⟩; have n1_ : As_ (Below w.heap.size w w27) := ⟨by rw [← hq_]; exact sqh⟩; clear BK288 HB hq_; have BK288 := n0_; have HB := n1_; clear n0_ n1_; have hcz28_0 : w27.cell? ⟨gb288, 0, none⟩ = some (.int .i64 a1_0) := (bC_ BK288.out 0).trans rfl; have hcz28_1 : w27.cell? ⟨gb288, 1, none⟩ = some (.int .i64 a1_1) := (bC_ BK288.out 1).trans rfl; have hcz28_2 : w27.cell? ⟨gb288, 2, none⟩ = some (.int .i64 a1_2) := (bC_ BK288.out 2).trans rfl; have hcz28_3 : w27.cell? ⟨gb288, 3, none⟩ = some (.int .i64 a1_3) := (bC_ BK288.out 3).trans rfl; have hcz28_4 : w27.cell? ⟨gb288, 4, none⟩ = some (.int .i64 a1_4) := (bC_ BK288.out 4).trans rfl; have hcz28_5 : w27.cell? ⟨gb288, 5, none⟩ = some (.int .i64 a1_5) := (bC_ BK288.out 5).trans rfl; have hcz28_6 : w27.cell? ⟨gb288, 6, none⟩ = some (.int .i64 a1_6) := (bC_ BK288.out 6).trans rfl; have hfz28_0 := bF_ BK288.out 0; have hfz28_1 := bF_ BK288.out 1; have hfz28_2 := bF_ BK288.out 2; have hfz28_3 := bF_ BK288.out 3; have hfz28_4 := bF_ BK288.out 4; have hfz28_5 := bF_ BK288.out 5; have hfz28_6 := bF_ BK288.out 6))))
     replace BK288 := As_.mk (blk_drew BK288.out)
     replace HB := As_.mk (bD_ HB.out)
     have p290 : 0 ≤ (t289 : Int) := of_decide_eq_true sqs
     have q290 : t289 < (l0.length : Int) := of_decide_eq_true sqs
     obtain ⟨ad290, A290_1, c290_1, e290, hx290_0, hx290_1, hx290_2, hl290_1, hi290_1⟩ := at_T48 HR0.out t289 p290 q290
     have hw290_2 := hx290_2; have hw290_1 := hx290_1; have hw290_0 := hx290_0
     cases e290
     replace hx290_0 := cl HB hx290_0; replace hx290_1 := cl HB hx290_1; replace hx290_2 := cl HB hx290_2
     have HR290_1 := As_.mk hi290_1
     have HC290_1 := As_.mk hl290_1
     clear hi290_1 hl290_1
     replace p290 := eq_true p290
     replace q290 := eq_true q290
     refine start_ (n := 13) (S := fun w' => w'.cell? ⟨gb288, 0, none⟩ = some (.int .i64 a1_0) ∧ w'.cell? ⟨gb288, 1, none⟩ = some (.int .i64 a1_1) ∧ w'.cell? ⟨gb288, 2, none⟩ = some (.int .i64 a1_2) ∧ w'.cell? ⟨gb288, 3, none⟩ = some (.int .i64 a1_3) ∧ w'.cell? ⟨gb288, 4, none⟩ = some (.int .i64 a1_4) ∧ w'.cell? ⟨gb288, 5, none⟩ = some (.int .i64 a1_5) ∧ w'.cell? ⟨gb288, 6, none⟩ = some (.int .i64 a1_6) ∧ w'.cell? (ad290.add ((t289).toNat * 3)) = some (.int .i64 ((rd_T48 l0 t289).f0)) ∧ w'.cell? ⟨(ad290.add ((t289).toNat * 3)).block, (ad290.add ((t289).toNat * 3)).off + 1, none⟩ = some (.slice A290_1 ((rd_T48 l0 t289).f1).length c290_1) ∧ w'.cell? ⟨(ad290.add ((t289).toNat * 3)).block, (ad290.add ((t289).toNat * 3)).off + 2, none⟩ = some (.int .i64 ((rd_T48 l0 t289).f2))) (ds := []) #[false, false, false, false, false, false, false, false, false, false, false, false, false] sqk rfl rfl (sa7 BK288.out ⟨(cl HB hw290_0), (cl HB hw290_1), (cl HB hw290_2)⟩) (fun hHeld => ?_); refine with_tabW spec_IsBelieved.tab4 spec_IsBelieved.bits4 (fun HT_ HW_ => ?_)
     generalize w27.drew = w29 at BK288 HB HR290_1 hx290_0 hx290_1 hx290_2 hHeld ⊢
     refine pu 0 16 ?_; refine pu 1 17 ?_; refine pu 2 18 ?_; refine pu 4 20 ?_; refine ta 3 19 ?_; refine ta 5 21 ?_
     refine join_ (σ := Nat) 2 #[true, true, true, true, true, true, true, true, true, true, true, false, false] (fun s_ => [(22, .tuple #[.agg #[.int .i64 t291, .int .i64 t292, .int .i64 t293, .int .i64 t294, .int .i64 t295, .int .i64 t296, .int .i64 t297], .bool false]), (6, .pointer (some ⟨s_, 0, none⟩)), (15, .tuple #[.agg #[.int .i64 t291, .int .i64 t292, .int .i64 t293, .int .i64 t294, .int .i64 t295, .int .i64 t296, .int .i64 t297], .bool false]), (23, .agg #[.int .i64 t291, .int .i64 t292, .int .i64 t293, .int .i64 t294, .int .i64 t295, .int .i64 t296, .int .i64 t297]), (24, .bool false)]) (fun s_ w' => (w'.cell? ⟨gb288, 0, none⟩ = some (.int .i64 a1_0) ∧ w'.cell? ⟨gb288, 1, none⟩ = some (.int .i64 a1_1) ∧ w'.cell? ⟨gb288, 2, none⟩ = some (.int .i64 a1_2) ∧ w'.cell? ⟨gb288, 3, none⟩ = some (.int .i64 a1_3) ∧ w'.cell? ⟨gb288, 4, none⟩ = some (.int .i64 a1_4) ∧ w'.cell? ⟨gb288, 5, none⟩ = some (.int .i64 a1_5) ∧ w'.cell? ⟨gb288, 6, none⟩ = some (.int .i64 a1_6) ∧ w'.cell? (ad290.add ((t289).toNat * 3)) = some (.int .i64 ((rd_T48 l0 t289).f0)) ∧ w'.cell? ⟨(ad290.add ((t289).toNat * 3)).block, (ad290.add ((t289).toNat * 3)).off + 1, none⟩ = some (.slice A290_1 ((rd_T48 l0 t289).f1).length c290_1) ∧ w'.cell? ⟨(ad290.add ((t289).toNat * 3)).block, (ad290.add ((t289).toNat * 3)).off + 2, none⟩ = some (.int .i64 ((rd_T48 l0 t289).f2))) ∧ (w'.heap[gb288]? = some (.cells #[.int .i64 a1_0, .int .i64 a1_1, .int .i64 a1_2, .int .i64 a1_3, .int .i64 a1_4, .int .i64 a1_5, .int .i64 a1_6] 76 (0, 0))) ∧ (w'.heap[s_]? = some (.cells #[.int .i64 0, .int .i64 0, .int .i64 0, .int .i64 0, .int .i64 0, .int .i64 0, .int .i64 0] 76 (0, 0))) ∧ (w.heap.size ≤ s_) ∧ (w.heap.size ≤ s_) ∧ (gb288 ≠ s_) ∧ (s_ ≠ gb288) ∧ (Below w.heap.size w w')) ?_ ?_
     rotate_left
     ·intro hCont
      refine two_ (i := 6) (j := 10) (Ni := some 22) (Nj := some 6) #[true, true, true, true, true, true, true, false, false, false, false, false, false] #[true, true, true, true, true, true, false, false, false, false, true, false, false] rfl rfl rfl rfl (two_of HT_.out sqk) (by decide) (by decide) (fun K hK => ?_) (fun K hK => ?_)
      ·skip
       refine goes_ Try.func52 sqk rfl #[.agg #[.int .i64 ((rd_T48 l0 t289).f0), .slice A290_1 ((rd_T48 l0 t289).f1).length c290_1, .int .i64 ((rd_T48 l0 t289).f2)], .agg #[.int .i64 a1_0, .int .i64 a1_1, .int .i64 a1_2, .int .i64 a1_3, .int .i64 a1_4, .int .i64 a1_5]] (by rfl) rfl rfl sqm ?_
       with_reducible refine (spec_StateFact.calls k ((rd_T48 l0 t289).f0) _ _ ((rd_T48 l0 t289).f1) ((rd_T48 l0 t289).f2) a1_0 a1_1 a1_2 a1_3 a1_4 a1_5 t291 t292 t293 t294 t295 t296 t297 false _ ?side1 ?side2 A9.out).mono ?_
       (case side1 => repeat (first | exact (Kd.C_below HR290_1.out HB.out) | (with_reducible refine Kd.C_alloc ?_ _) | (with_reducible refine Kd.C_drewN ?_ _) | (with_reducible refine Kd.C_drew ?_)))
       (case side2 => exact HC290_1.out)
       rintro e w30 ⟨rfl, hb⟩
       refine ⟨_, rfl, ?_⟩
       replace BK288 := As_.mk (blk_below (bo BK288) hb)
       replace HB := As_.mk (below_step sqh hb)
       (try clear hb)
       (try clear hb2)
       (try clear hk)
       (try clear hi)
       refine hK.out _ _ (sa7 BK288.out ⟨(cl HB hw290_0), (cl HB hw290_1), (cl HB hw290_2)⟩) (fun hHeld => ?_)
       clear hK K; refine no 22 ?_; refine pu 7 15 ?_; refine pu 8 23 ?_; refine pu 9 24 ?_
       refine on 10 (some 6) (fun K hK => ?_)
       refine box_step ?hg (N := 6) ?hd (cs := #[.int .i64 0, .int .i64 0, .int .i64 0, .int .i64 0, .int .i64 0, .int .i64 0, .int .i64 0]) (t := 76) ?hr ?_; (case hd => rfl); (case hg => rfl); (case hr => first | (go_simp; done) | (go_simp; rfl))
       intro gb299 hg w31 hbox hb
       have BK299 := As_.mk (hbox)
       have GW299 := As_.mk ((z55_3 : w.heap.size ≤ gb299))
       have GE299 := As_.mk ((z55_3 : w.heap.size ≤ gb299))
       replace HB := As_.mk (below_step sqh hb)
       have NB288_299 := As_.mk ((by rw [hg]; exact Nat.ne_of_lt (blk_lt (bo BK288)) : gb288 ≠ gb299))
       have NB299_288 := As_.mk ((by rw [hg]; exact Nat.ne_of_gt (blk_lt (bo BK288)) : gb299 ≠ gb288))
       replace BK288 := As_.mk (blk_below (bo BK288) hb)
       clear hb hbox hg
       refine hK.out _ _ (sa7 BK288.out ⟨(cl HB hw290_0), (cl HB hw290_1), (cl HB hw290_2)⟩) (fun hHeld => ?_)
       clear hK K; refine no 6 ?_
       exact norm_ z55_4 (hCont (gb299) _ ⟨hHeld, (sqb BK288.out), (sqb BK299.out), GW299.out, GE299.out, NB288_299.out, NB299_288.out, sqh⟩)
      ·skip
       refine box_step ?hg (N := 6) ?hd (cs := #[.int .i64 0, .int .i64 0, .int .i64 0, .int .i64 0, .int .i64 0, .int .i64 0, .int .i64 0]) (t := 76) ?hr ?_; (case hd => rfl); (case hg => rfl); (case hr => first | (go_simp; done) | (go_simp; rfl))
       intro gb299 hg w30 hbox hb
       have BK299 := As_.mk (hbox)
       have GW299 := As_.mk ((z55_3 : w.heap.size ≤ gb299))
       have GE299 := As_.mk ((z55_3 : w.heap.size ≤ gb299))
       replace HB := As_.mk (below_step sqh hb)
       have NB288_299 := As_.mk ((by rw [hg]; exact Nat.ne_of_lt (blk_lt (bo BK288)) : gb288 ≠ gb299))
       have NB299_288 := As_.mk ((by rw [hg]; exact Nat.ne_of_gt (blk_lt (bo BK288)) : gb299 ≠ gb288))
       replace BK288 := As_.mk (blk_below (bo BK288) hb)
       clear hb hbox hg
       refine hK.out _ _ (sa7 BK288.out ⟨(cl HB hw290_0), (cl HB hw290_1), (cl HB hw290_2)⟩) (fun hHeld => ?_)
       clear hK K; refine no 6 ?_
       refine on 6 (some 22) (fun K hK => ?_)
       refine goes_ Try.func52 sqk rfl #[.agg #[.int .i64 ((rd_T48 l0 t289).f0), .slice A290_1 ((rd_T48 l0 t289).f1).length c290_1, .int .i64 ((rd_T48 l0 t289).f2)], .agg #[.int .i64 a1_0, .int .i64 a1_1, .int .i64 a1_2, .int .i64 a1_3, .int .i64 a1_4, .int .i64 a1_5]] (by rfl) rfl rfl sqm ?_
       with_reducible refine (spec_StateFact.calls k ((rd_T48 l0 t289).f0) _ _ ((rd_T48 l0 t289).f1) ((rd_T48 l0 t289).f2) a1_0 a1_1 a1_2 a1_3 a1_4 a1_5 t291 t292 t293 t294 t295 t296 t297 false _ ?side1 ?side2 A9.out).mono ?_
       (case side1 => repeat (first | exact (Kd.C_below HR290_1.out HB.out) | (with_reducible refine Kd.C_alloc ?_ _) | (with_reducible refine Kd.C_drewN ?_ _) | (with_reducible refine Kd.C_drew ?_)))
       (case side2 => exact HC290_1.out)
       rintro e w31 ⟨rfl, hb⟩
       refine ⟨_, rfl, ?_⟩
       replace BK288 := As_.mk (blk_below (bo BK288) hb)
       replace BK299 := As_.mk (blk_below (bo BK299) hb)
       replace HB := As_.mk (below_step sqh hb)
       (try clear hb)
       (try clear hb2)
       (try clear hk)
       (try clear hi)
       refine hK.out _ _ (sa7 BK288.out ⟨(cl HB hw290_0), (cl HB hw290_1), (cl HB hw290_2)⟩) (fun hHeld => ?_)
       clear hK K; refine no 22 ?_; refine pu 7 15 ?_; refine pu 8 23 ?_; refine pu 9 24 ?_
       exact norm_ z55_4 (hCont (gb299) _ ⟨hHeld, (sqb BK288.out), (sqb BK299.out), GW299.out, GE299.out, NB288_299.out, NB299_288.out, sqh⟩)
     rintro gb299 w32 ⟨hS_, h0_, h1_, h2_, h3_, h4_, h5_, h6_⟩
     have n0_ : As_ (w32.heap[gb288]? = some (.cells #[.int .i64 a1_0, .int .i64 a1_1, .int .i64 a1_2, .int .i64 a1_3, .int .i64 a1_4, .int .i64 a1_5, .int .i64 a1_6] 76 (0, 0))) := ⟨h0_⟩
     have n1_ : As_ (w32.heap[gb299]? = some (.cells #[.int .i64 0, .int .i64 0, .int .i64 0, .int .i64 0, .int .i64 0, .int .i64 0, .int .i64 0] 76 (0, 0))) := ⟨h1_⟩
     have n2_ : As_ (w.heap.size ≤ gb299) := ⟨h2_⟩
     have n3_ : As_ (w.heap.size ≤ gb299) := ⟨h3_⟩
     have n4_ : As_ (gb288 ≠ gb299) := ⟨h4_⟩
     have n5_ : As_ (gb299 ≠ gb288) := ⟨h5_⟩
     have n6_ : As_ (Below w.heap.size w w32) := ⟨h6_⟩
     clear BK288; clear HB; clear h0_ h1_ h2_ h3_ h4_ h5_ h6_
     have BK288 := n0_
     have BK299 := n1_
     have GW299 := n2_
     have GE299 := n3_
     have NB288_299 := n4_
     have NB299_288 := n5_
     have HB := n6_
     clear n0_ n1_ n2_ n3_ n4_ n5_ n6_
     have hHeld : w32.cell? ⟨gb288, 0, none⟩ = some (.int .i64 a1_0) ∧ w32.cell? ⟨gb288, 1, none⟩ = some (.int .i64 a1_1) ∧ w32.cell? ⟨gb288, 2, none⟩ = some (.int .i64 a1_2) ∧ w32.cell? ⟨gb288, 3, none⟩ = some (.int .i64 a1_3) ∧ w32.cell? ⟨gb288, 4, none⟩ = some (.int .i64 a1_4) ∧ w32.cell? ⟨gb288, 5, none⟩ = some (.int .i64 a1_5) ∧ w32.cell? ⟨gb288, 6, none⟩ = some (.int .i64 a1_6) ∧ w32.cell? (ad290.add ((t289).toNat * 3)) = some (.int .i64 ((rd_T48 l0 t289).f0)) ∧ w32.cell? ⟨(ad290.add ((t289).toNat * 3)).block, (ad290.add ((t289).toNat * 3)).off + 1, none⟩ = some (.slice A290_1 ((rd_T48 l0 t289).f1).length c290_1) ∧ w32.cell? ⟨(ad290.add ((t289).toNat * 3)).block, (ad290.add ((t289).toNat * 3)).off + 2, none⟩ = some (.int .i64 ((rd_T48 l0 t289).f2)) := hS_
     refine norm_ (a' := ?_) ?_ ?_
     rotate_left
     ·simp only [putAll, Act.put, List.setIfInBounds_toArray, List.set_cons_zero, List.set_cons_succ]
      rfl
     refine on 11 none (fun K hK => ?_)
     obtain ⟨hs33, hfs33⟩ := sd1 BK299.out
     have hns33_0 := NB288_299.out
     have hms33_0 := NB299_288.out
     have hs34 : w32.cell? ⟨gb299, 1, none⟩ = some (.int .i64 0) := (bC_ BK299.out 1).trans rfl
     have hfs34 := bF_ BK299.out 1
     have hns34_0 := NB288_299.out
     have hms34_0 := NB299_288.out
     have hs35 : w32.cell? ⟨gb299, 2, none⟩ = some (.int .i64 0) := (bC_ BK299.out 2).trans rfl
     have hfs35 := bF_ BK299.out 2
     have hns35_0 := NB288_299.out
     have hms35_0 := NB299_288.out
     have hs36 : w32.cell? ⟨gb299, 3, none⟩ = some (.int .i64 0) := (bC_ BK299.out 3).trans rfl
     have hfs36 := bF_ BK299.out 3
     have hns36_0 := NB288_299.out
     have hms36_0 := NB299_288.out
     have hs37 : w32.cell? ⟨gb299, 4, none⟩ = some (.int .i64 0) := (bC_ BK299.out 4).trans rfl
     have hfs37 := bF_ BK299.out 4
     have hns37_0 := NB288_299.out
     have hms37_0 := NB299_288.out
     have hs38 : w32.cell? ⟨gb299, 5, none⟩ = some (.int .i64 0) := (bC_ BK299.out 5).trans rfl
     have hfs38 := bF_ BK299.out 5
     have hns38_0 := NB288_299.out
     have hms38_0 := NB299_288.out
     have hs39 : w32.cell? ⟨gb299, 6, none⟩ = some (.int .i64 0) := (bC_ BK299.out 6).trans rfl
     have hfs39 := bF_ BK299.out 6
     have hns39_0 := NB288_299.out
     have hms39_0 := NB299_288.out
     refine skip_ (w1 := ?_) (by rfl) rfl ?_ ?_
     rotate_left
     ·go_simp
      rfl
     refine hK.out _ _ ⟨((cell_far (p := ⟨gb299, _, none⟩) NB288_299.out _).trans (((cell_far (p := ⟨gb299, _, none⟩) NB288_299.out _).trans (((cell_far (p := ⟨gb299, _, none⟩) NB288_299.out _).trans (((cell_far (p := ⟨gb299, _, none⟩) NB288_299.out _).trans (((cell_far (p := ⟨gb299, _, none⟩) NB288_299.out _).trans (((cell_far (p := ⟨gb299, _, none⟩) NB288_299.out _).trans (((cell_far (p := ⟨gb299, _, none⟩) NB288_299.out _).trans (hHeld.1)))))))))))))), ((cell_far (p := ⟨gb299, _, none⟩) NB288_299.out _).trans (((cell_far (p := ⟨gb299, _, none⟩) NB288_299.out _).trans (((cell_far (p := ⟨gb299, _, none⟩) NB288_299.out _).trans (((cell_far (p := ⟨gb299, _, none⟩) NB288_299.out _).trans (((cell_far (p := ⟨gb299, _, none⟩) NB288_299.out _).trans (((cell_far (p := ⟨gb299, _, none⟩) NB288_299.out _).trans (((cell_far (p := ⟨gb299, _, none⟩) NB288_299.out _).trans (hHeld.2.1)))))))))))))), ((cell_far (p := ⟨gb299, _, none⟩) NB288_299.out _).trans (((cell_far (p := ⟨gb299, _, none⟩) NB288_299.out _).trans (((cell_far (p := ⟨gb299, _, none⟩) NB288_299.out _).trans (((cell_far (p := ⟨gb299, _, none⟩) NB288_299.out _).trans (((cell_far (p := ⟨gb299, _, none⟩) NB288_299.out _).trans (((cell_far (p := ⟨gb299, _, none⟩) NB288_299.out _).trans (((cell_far (p := ⟨gb299, _, none⟩) NB288_299.out _).trans (hHeld.2.2.1)))))))))))))), ((cell_far (p := ⟨gb299, _, none⟩) NB288_299.out _).trans (((cell_far (p := ⟨gb299, _, none⟩) NB288_299.out _).trans (((cell_far (p := ⟨gb299, _, none⟩) NB288_299.out _).trans (((cell_far (p := ⟨gb299, _, none⟩) NB288_299.out _).trans (((cell_far (p := ⟨gb299, _, none⟩) NB288_299.out _).trans (((cell_far (p := ⟨gb299, _, none⟩) NB288_299.out _).trans (((cell_far (p := ⟨gb299, _, none⟩) NB288_299.out _).trans (hHeld.2.2.2.1)))))))))))))), ((cell_far (p := ⟨gb299, _, none⟩) NB288_299.out _).trans (((cell_far (p := ⟨gb299, _, none⟩) NB288_299.out _).trans (((cell_far (p := ⟨gb299, _, none⟩) NB288_299.out _).trans (((cell_far (p := ⟨gb299, _, none⟩) NB288_299.out _).trans (((cell_far (p := ⟨gb299, _, none⟩) NB288_299.out _).trans (((cell_far (p := ⟨gb299, _, none⟩) NB288_299.out _).trans (((cell_far (p := ⟨gb299, _, none⟩) NB288_299.out _).trans (hHeld.2.2.2.2.1)))))))))))))), ((cell_far (p := ⟨gb299, _, none⟩) NB288_299.out _).trans (((cell_far (p := ⟨gb299, _, none⟩) NB288_299.out _).trans (((cell_far (p := ⟨gb299, _, none⟩) NB288_299.out _).trans (((cell_far (p := ⟨gb299, _, none⟩) NB288_299.out _).trans (((cell_far (p := ⟨gb299, _, none⟩) NB288_299.out _).trans (((cell_far (p := ⟨gb299, _, none⟩) NB288_299.out _).trans (((cell_far (p := ⟨gb299, _, none⟩) NB288_299.out _).trans (hHeld.2.2.2.2.2.1)))))))))))))), ((cell_far (p := ⟨gb299, _, none⟩) NB288_299.out _).trans (((cell_far (p := ⟨gb299, _, none⟩) NB288_299.out _).trans (((cell_far (p := ⟨gb299, _, none⟩) NB288_299.out _).trans (((cell_far (p := ⟨gb299, _, none⟩) NB288_299.out _).trans (((cell_far (p := ⟨gb299, _, none⟩) NB288_299.out _).trans (((cell_far (p := ⟨gb299, _, none⟩) NB288_299.out _).trans (((cell_far (p := ⟨gb299, _, none⟩) NB288_299.out _).trans (hHeld.2.2.2.2.2.2.1)))))))))))))), ((cell_far (p := ⟨gb299, _, none⟩) z55_2 _).trans (((cell_far (p := ⟨gb299, _, none⟩) z55_2 _).trans (((cell_far (p := ⟨gb299, _, none⟩) z55_2 _).trans (((cell_far (p := ⟨gb299, _, none⟩) z55_2 _).trans (((cell_far (p := ⟨gb299, _, none⟩) z55_2 _).trans (((cell_far (p := ⟨gb299, _, none⟩) z55_2 _).trans (((cell_far (p := ⟨gb299, _, none⟩) z55_2 _).trans (hHeld.2.2.2.2.2.2.2.1)))))))))))))), ((cell_far (p := ⟨gb299, _, none⟩) z55_1 _).trans (((cell_far (p := ⟨gb299, _, none⟩) z55_1 _).trans (((cell_far (p := ⟨gb299, _, none⟩) z55_1 _).trans (((cell_far (p := ⟨gb299, _, none⟩) z55_1 _).trans (((cell_far (p := ⟨gb299, _, none⟩) z55_1 _).trans (((cell_far (p := ⟨gb299, _, none⟩) z55_1 _).trans (((cell_far (p := ⟨gb299, _, none⟩) z55_1 _).trans (hHeld.2.2.2.2.2.2.2.2.1)))))))))))))), ((cell_far (p := ⟨gb299, _, none⟩) z55_0 _).trans (((cell_far (p := ⟨gb299, _, none⟩) z55_0 _).trans (((cell_far (p := ⟨gb299, _, none⟩) z55_0 _).trans (((cell_far (p := ⟨gb299, _, none⟩) z55_0 _).trans (((cell_far (p := ⟨gb299, _, none⟩) z55_0 _).trans (((cell_far (p := ⟨gb299, _, none⟩) z55_0 _).trans (((cell_far (p := ⟨gb299, _, none⟩) z55_0 _).trans (hHeld.2.2.2.2.2.2.2.2.2))))))))))))))⟩ (fun hHeld => ?_)
     clear hK K; refine pu 12 7 ?_
     refine dn ?_
     try go_wp2
     go_ret
     exact ⟨sqe, sqh⟩
   ·rw [if_neg c8] at H
    exact absurd H (by simp)
  ·rw [if_neg c7] at H
   exact absurd H (by simp)

/-! ### laws_big: function 58 -/
def laws_big.f (l0 : List Int) : Option (Bool) := some (decide ((l0.length : Int) > 1048576))
set_option maxHeartbeats 8000000 in
set_option maxRecDepth 100000 in
theorem laws_big.calls (A0 : Option Addr) (c0 : Nat) (l0 : List Int) (r : Bool) (w : World) (hr0 : Kd.C (Kd.int .u8) w A0 l0.length l0) (hc0 : l0.length ≤ c0) (h : laws_big.f l0 = some r) :
  Calls Try.prog 58 #[.slice A0 l0.length c0] w fun e w' => e = .returned (.bool r) ∧ Drawn0 w w' := by
 have HR0 := As_.mk hr0
 have HC0 := As_.mk hc0
 clear hr0 hc0
 have H : (some (decide ((l0.length : Int) > 1048576))) = some r := h
 clear h
 obtain rfl := Option.some.inj H
 go_enter Try.func58, Try.ntmps58
 go_wp2
 go_ret
 exact ⟨sqr, by repeat (first | exact Drawn0.refl _ | apply Drawn0.step)⟩

end Go.Proofs.Ytabpgiebhgkfhaa.XFnIssuers
