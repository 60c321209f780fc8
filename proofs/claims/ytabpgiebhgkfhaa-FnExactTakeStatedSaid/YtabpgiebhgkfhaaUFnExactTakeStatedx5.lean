/- Written by this session's own program (wip/xprint, which runs over the kit's print): what the functions that the law reaches come to, each proved; and the law's row. Conditions: none. -/
import Derived.Test.YtabpgiebhgkfhaaUFnExactTakeStatedSq
import Derived.Test.YtabpgiebhgkfhaaUFnExactTakeStatedx0
import Derived.Test.YtabpgiebhgkfhaaUFnExactTakeStatedx1
import Derived.Test.YtabpgiebhgkfhaaUFnExactTakeStatedx2
import Derived.Test.YtabpgiebhgkfhaaUFnExactTakeStatedx4
namespace Go.Proofs.Ytabpgiebhgkfhaa.XFnExactTakeStated
open Go.RowKit Go.Proofs.YtabpgiebhgkfhaaW.PrintWords Go.Proofs.YtabpgiebhgkfhaaW.PrintLast Go.Proofs.YtabpgiebhgkfhaaW.PrintMore Go.Proofs.YtabpgiebhgkfhaaSq
attribute [local go_sem] max2_int min2_int max_two min_two max_three min_three max_four min_four   -- for this text's walks alone
set_option linter.unusedVariables false
set_option linter.unusedSimpArgs false

attribute [local go_sem high] eqA76
/-! ### spec_IsBelieved: function 55 -/
def spec_IsBelieved.f (k : Nat) (l0 : List (S48)) (a1_0 : Int) (a1_1 : Int) (a1_2 : Int) (a1_3 : Int) (a1_4 : Int) (a1_5 : Int) (a1_6 : Int) : Option (Bool) := (spec_FindIssuer.f k l0 a1_3).bind fun t166 => (if t166 < 0 then (some false) else (if 0 ≤ t166 then (if t166 < (l0.length : Int) then ((spec_StateFact.f k ((rd_T48 l0 t166).f0) ((rd_T48 l0 t166).f1) ((rd_T48 l0 t166).f2) a1_0 a1_1 a1_2 a1_3 a1_4 a1_5).bind fun bt168 => (if bt168.2.2.2.2.2.2.2 = true then (some ((bt168.1 == a1_0 && (bt168.2.1 == a1_1 && (bt168.2.2.1 == a1_2 && (bt168.2.2.2.1 == a1_3 && (bt168.2.2.2.2.1 == a1_4 && (bt168.2.2.2.2.2.1 == a1_5)))))) && (bt168.2.2.2.2.2.2.1 == a1_6))) else (some false))) else (none)) else (none)))
def spec_IsBelieved.T4 : Bool × List (List Nat × List Nat) := (true, [([], []), ([], []), ([0, 1], [0, 1]), ([2], [2]), ([], []), ([4], [4]), ([3, 5], [3, 5]), ([6], [6]), ([7], [7]), ([7], [7]), ([], []), ([10, 8, 6, 0, 1, 2, 3, 4, 5, 6, 7, 8, 10], [8, 10]), ([9, 11, 0, 1, 2, 3, 4, 5, 6, 7, 8, 9, 10, 11], [9])])
def spec_IsBelieved.B4 : List Nat := [0, 0, 3, 7, 0, 16, 63, 127, 255, 255, 0, 1535, 4095]
theorem spec_IsBelieved.tab4 : rtab .any (opsOf Try.f55 4) = spec_IsBelieved.T4 := by kernel_rfl
theorem spec_IsBelieved.bits4 : waitsOk spec_IsBelieved.T4.2 spec_IsBelieved.B4 = true := by kernel_rfl
theorem z55_0 {Q : Prop} (g : Q := by first | exact Nat.ne_of_lt (Nat.lt_of_lt_of_le (by have := World.block_lt_of_cell? _ _ hw167_2; first | rwa [add_block] at this | exact this) GW176.out) | (rw [add_block]; exact Nat.ne_of_lt (Nat.lt_of_lt_of_le (by have := World.block_lt_of_cell? _ _ hw167_2; first | rwa [add_block] at this | exact this) GW176.out)) | (show (Addr.add _ _).block ≠ _; rw [add_block]; exact Nat.ne_of_lt (Nat.lt_of_lt_of_le (by have := World.block_lt_of_cell? _ _ hw167_2; first | rwa [add_block] at this | exact this) GW176.out)) | (dsimp only; exact Nat.ne_of_lt (Nat.lt_of_lt_of_le (by have := World.block_lt_of_cell? _ _ hw167_2; first | rwa [add_block] at this | exact this) GW176.out))) : Q := g
theorem z55_1 {Q : Prop} (g : Q := by first | exact Nat.ne_of_lt (Nat.lt_of_lt_of_le (by have := World.block_lt_of_cell? _ _ hw167_1; first | rwa [add_block] at this | exact this) GW176.out) | (rw [add_block]; exact Nat.ne_of_lt (Nat.lt_of_lt_of_le (by have := World.block_lt_of_cell? _ _ hw167_1; first | rwa [add_block] at this | exact this) GW176.out)) | (show (Addr.add _ _).block ≠ _; rw [add_block]; exact Nat.ne_of_lt (Nat.lt_of_lt_of_le (by have := World.block_lt_of_cell? _ _ hw167_1; first | rwa [add_block] at this | exact this) GW176.out)) | (dsimp only; exact Nat.ne_of_lt (Nat.lt_of_lt_of_le (by have := World.block_lt_of_cell? _ _ hw167_1; first | rwa [add_block] at this | exact this) GW176.out))) : Q := g
theorem z55_2 {Q : Prop} (g : Q := by first | exact Nat.ne_of_lt (Nat.lt_of_lt_of_le (by have := World.block_lt_of_cell? _ _ hw167_0; first | rwa [add_block] at this | exact this) GW176.out) | (rw [add_block]; exact Nat.ne_of_lt (Nat.lt_of_lt_of_le (by have := World.block_lt_of_cell? _ _ hw167_0; first | rwa [add_block] at this | exact this) GW176.out)) | (show (Addr.add _ _).block ≠ _; rw [add_block]; exact Nat.ne_of_lt (Nat.lt_of_lt_of_le (by have := World.block_lt_of_cell? _ _ hw167_0; first | rwa [add_block] at this | exact this) GW176.out)) | (dsimp only; exact Nat.ne_of_lt (Nat.lt_of_lt_of_le (by have := World.block_lt_of_cell? _ _ hw167_0; first | rwa [add_block] at this | exact this) GW176.out))) : Q := g
theorem z55_3 {Q : Prop} (g : Q := by rw [hg]; exact (below_size h_)) : Q := g
theorem z55_4 {Q : Prop} (g : Q := by simp only [putAll, Act.put, List.setIfInBounds_toArray, List.set_cons_zero, List.set_cons_succ]) : Q := g
set_option maxHeartbeats 8000000 in
set_option maxRecDepth 100000 in
theorem spec_IsBelieved.calls (k : Nat) (A0 : Option Addr) (c0 : Nat) (l0 : List (S48)) (a1_0 : Int) (a1_1 : Int) (a1_2 : Int) (a1_3 : Int) (a1_4 : Int) (a1_5 : Int) (a1_6 : Int) (r : Bool) (w : World) (hr0 : Kd.C k48 w A0 l0.length l0) (hc0 : l0.length ≤ c0) (h : spec_IsBelieved.f k l0 a1_0 a1_1 a1_2 a1_3 a1_4 a1_5 a1_6 = some r) :
  Calls Try.prog 55 #[.slice A0 l0.length c0, .agg #[.int .i64 a1_0, .int .i64 a1_1, .int .i64 a1_2, .int .i64 a1_3, .int .i64 a1_4, .int .i64 a1_5, .int .i64 a1_6]] w fun e w' => e = .returned (.bool r) ∧ Below w.heap.size w w' := by
 have hu76 := Try.underlying76
 have hu48 := Try.underlying48
 have hu55 := Try.underlying55
 have HR0 := Aside0.mk hr0
 have HC0 := Aside0.mk hc0
 clear hr0 hc0
 have HB := Aside0.mk (Below.refl w.heap.size w)
 have H : ((spec_FindIssuer.f k l0 a1_3).bind fun t166 => (if t166 < 0 then (some false) else (if 0 ≤ t166 then (if t166 < (l0.length : Int) then ((spec_StateFact.f k ((rd_T48 l0 t166).f0) ((rd_T48 l0 t166).f1) ((rd_T48 l0 t166).f2) a1_0 a1_1 a1_2 a1_3 a1_4 a1_5).bind fun bt168 => (if bt168.2.2.2.2.2.2.2 = true then (some ((bt168.1 == a1_0 && (bt168.2.1 == a1_1 && (bt168.2.2.1 == a1_2 && (bt168.2.2.2.1 == a1_3 && (bt168.2.2.2.2.1 == a1_4 && (bt168.2.2.2.2.2.1 == a1_5)))))) && (bt168.2.2.2.2.2.2.1 == a1_6))) else (some false))) else (none)) else (none)))) = some r := h
 clear h
 obtain ⟨t166, A3, H⟩ := bA H
 by_cases c4 : t166 < 0
 ·rw [if_pos c4] at H
  have c4b0 : decide (t166 < 0) = true := decide_eq_true c4
  clear c4
  obtain rfl := Option.some.inj H
  go_enter Try.func55, Try.ntmps55
  go_wp2_with (first | ((with_reducible refine gate_dst (N := 3) rfl ?_); refine bx (N := 3) (cs := #[.int .i64 a1_0, .int .i64 a1_1, .int .i64 a1_2, .int .i64 a1_3, .int .i64 a1_4, .int .i64 a1_5, .int .i64 a1_6]) (t := 76) ?_; intro gb165 hg w5 hbox hb; have BK165 := Aside0.mk (hbox); have GW165 := Aside0.mk ((z55_3 : w.heap.size ≤ gb165)); have GE165 := Aside0.mk ((z55_3 : w.heap.size ≤ gb165)); replace HB := Aside0.mk (below_step h_ hb); clear hb hbox hg; obtain ⟨hcz6_0, hcz6_1, hcz6_2, hcz6_3, hcz6_4, hcz6_5, hcz6_6, hfz6_0, hfz6_1, hfz6_2, hfz6_3, hfz6_4, hfz6_5, hfz6_6⟩ := d7 BK165.out) | ((with_reducible refine gate_callee (f := 42) rfl ?_); refine goesL_ (some 12) rfl rfl Try.func42 k_ rfl #[.slice A0 l0.length c0, .int .i64 a1_3] rfl m_ ?_; (with_reducible refine (spec_FindIssuer.calls k _ _ l0 a1_3 t166 _ ?side1 ?side2 A3.out).mono ?_); (case side1 => exact n_ (Kd.C_below HR0.out HB.out)); (case side2 => exact HC0.out); rintro e w' ⟨rfl, ⟨nd, rfl⟩⟩; refine ⟨_, rfl, ?_⟩))
  go_ret
  exact ⟨e_, h_⟩
 ·rw [if_neg c4] at H
  have c4b0 : decide (t166 < 0) = false := decide_eq_false c4
  clear c4
  by_cases c7 : 0 ≤ t166
  ·rw [if_pos c7] at H
   have c7b0 : decide (0 ≤ t166) = true := decide_eq_true c7
   clear c7
   by_cases c8 : t166 < (l0.length : Int)
   ·rw [if_pos c8] at H
    have c8b0 : decide (t166 < (l0.length : Int)) = true := decide_eq_true c8
    clear c8
    obtain ⟨⟨t168, t169, t170, t171, t172, t173, t174, t175⟩, A9, H⟩ := bA H
    dsimp only at H
    by_cases c10 : t175 = true
    ·subst c10
     replace H := iT H
     obtain rfl := Option.some.inj H
     go_enter Try.func55, Try.ntmps55
     try go_wp2_with (first | ((with_reducible refine gate_dst (N := 3) rfl ?_); refine bx (N := 3) (cs := #[.int .i64 a1_0, .int .i64 a1_1, .int .i64 a1_2, .int .i64 a1_3, .int .i64 a1_4, .int .i64 a1_5, .int .i64 a1_6]) (t := 76) ?_; intro gb165 hg w11 hbox hb; have BK165 := Aside0.mk (hbox); have GW165 := Aside0.mk ((z55_3 : w.heap.size ≤ gb165)); have GE165 := Aside0.mk ((z55_3 : w.heap.size ≤ gb165)); replace HB := Aside0.mk (below_step h_ hb); clear hb hbox hg; obtain ⟨hcz12_0, hcz12_1, hcz12_2, hcz12_3, hcz12_4, hcz12_5, hcz12_6, hfz12_0, hfz12_1, hfz12_2, hfz12_3, hfz12_4, hfz12_5, hfz12_6⟩ := d7 BK165.out) | ((with_reducible refine gate_callee (f := 42) rfl ?_); refine goesL_ (some 12) rfl rfl Try.func42 k_ rfl #[.slice A0 l0.length c0, .int .i64 a1_3] rfl m_ ?_; (with_reducible refine (spec_FindIssuer.calls k _ _ l0 a1_3 t166 _ ?side1 ?side2 A3.out).mono ?_); (case side1 => exact n_ (Kd.C_below HR0.out HB.out)); (case side2 => exact HC0.out); rintro e w' ⟨rfl, ⟨nd, rfl⟩⟩; refine ⟨_, rfl, ?_⟩; (try (rw [drewN_self w11]; generalize hq_ : World.drewN w11 _ = w11; have n0_ : Aside0 (w11.heap[gb165]? = some (.cells #[.int .i64 a1_0, .int .i64 a1_1, .int .i64 a1_2, .int .i64 a1_3, .int .i64 a1_4, .int .i64 a1_5, .int .i64 a1_6] 76 (0, 0))) := ⟨by rw [← hq_]; exact (b_ BK165.out)⟩; have n1_ : Aside0 (Below w.heap.size w w11) := ⟨by rw [← hq_]; exact h_⟩; clear BK165 HB hq_; have BK165 := n0_; have HB := n1_; clear n0_ n1_; have hcz12_0 : w11.cell? ⟨gb165, 0, none⟩ = some (.int .i64 a1_0) := (blk_cell BK165.out 0).trans rfl; have hcz12_1 : w11.cell? ⟨gb165, 1, none⟩ = some (.int .i64 a1_1) := (blk_cell BK165.out 1).trans rfl; have hcz12_2 : w11.cell? ⟨gb165, 2, none⟩ = some (.int .i64 a1_2) := (blk_cell BK165.out 2).trans rfl; have hcz12_3 : w11.cell? ⟨gb165, 3, none⟩ = some (.int .i64 a1_3) := (blk_cell BK165.out 3).trans rfl; have hcz12_4 : w11.cell? ⟨gb165, 4, none⟩ = some (.int .i64 a1_4) := (blk_cell BK165.out 4).trans rfl; have hcz12_5 : w11.cell? ⟨gb165, 5, none⟩ = some (.int .i64 a1_5) := (blk_cell BK165.out 5).trans rfl; have hcz12_6 : w11.cell? ⟨gb165, 6, none⟩ = some (.int .i64 a1_6) := (blk_cell BK165.out 6).trans rfl; have hfz12_0 := blk_frozen BK165.out 0; have hfz12_1 := blk_frozen BK165.out 1; have hfz12_2 := blk_frozen BK165.out 2; have hfz12_3 := blk_frozen BK165.out 3; have hfz12_4 := blk_frozen BK165.out 4; have hfz12_5 := blk_frozen BK165.out 5; have hfz12_6 := blk_frozen BK165.out 6))))
     replace BK165 := Aside0.mk (blk_drew BK165.out)
     replace HB := Aside0.mk (below_drew1 HB.out)
     have p167 : 0 ≤ (t166 : Int) := of_decide_eq_true s_
     have q167 : t166 < (l0.length : Int) := of_decide_eq_true s_
     obtain ⟨ad167, A167_1, c167_1, e167, hx167_0, hx167_1, hx167_2, hl167_1, hi167_1⟩ := at_T48 HR0.out t166 p167 q167
     have hw167_2 := hx167_2; have hw167_1 := hx167_1; have hw167_0 := hx167_0
     cases e167
     replace hx167_0 := cl HB hx167_0; replace hx167_1 := cl HB hx167_1; replace hx167_2 := cl HB hx167_2
     have HR167_1 := Aside0.mk hi167_1
     have HC167_1 := Aside0.mk hl167_1
     clear hi167_1 hl167_1
     replace p167 := eq_true p167
     replace q167 := eq_true q167
     refine start_ (n := 13) (S := fun w' => w'.cell? ⟨gb165, 0, none⟩ = some (.int .i64 a1_0) ∧ w'.cell? ⟨gb165, 1, none⟩ = some (.int .i64 a1_1) ∧ w'.cell? ⟨gb165, 2, none⟩ = some (.int .i64 a1_2) ∧ w'.cell? ⟨gb165, 3, none⟩ = some (.int .i64 a1_3) ∧ w'.cell? ⟨gb165, 4, none⟩ = some (.int .i64 a1_4) ∧ w'.cell? ⟨gb165, 5, none⟩ = some (.int .i64 a1_5) ∧ w'.cell? ⟨gb165, 6, none⟩ = some (.int .i64 a1_6) ∧ w'.cell? (ad167.add ((t166).toNat * 3)) = some (.int .i64 ((rd_T48 l0 t166).f0)) ∧ w'.cell? ⟨(ad167.add ((t166).toNat * 3)).block, (ad167.add ((t166).toNat * 3)).off + 1, none⟩ = some (.slice A167_1 ((rd_T48 l0 t166).f1).length c167_1) ∧ w'.cell? ⟨(ad167.add ((t166).toNat * 3)).block, (ad167.add ((t166).toNat * 3)).off + 2, none⟩ = some (.int .i64 ((rd_T48 l0 t166).f2))) (ds := []) #[false, false, false, false, false, false, false, false, false, false, false, false, false] k_ rfl rfl (a7 BK165.out ⟨(cl HB hw167_0), (cl HB hw167_1), (cl HB hw167_2)⟩) (fun hHeld => ?_); refine with_tabW spec_IsBelieved.tab4 spec_IsBelieved.bits4 (fun HT_ HW_ => ?_)
     generalize w11.drew = w13 at BK165 HB HR167_1 hx167_0 hx167_1 hx167_2 hHeld ⊢
     refine pu 0 16 ?_; refine pu 1 17 ?_; refine pu 2 18 ?_; refine pu 4 20 ?_; refine ta 3 19 ?_; refine ta 5 21 ?_
     refine join_ (σ := Nat) 2 #[true, true, true, true, true, true, true, true, true, true, true, false, false] (fun s_ => [(22, .tuple #[.agg #[.int .i64 t168, .int .i64 t169, .int .i64 t170, .int .i64 t171, .int .i64 t172, .int .i64 t173, .int .i64 t174], .bool true]), (6, .pointer (some ⟨s_, 0, none⟩)), (15, .tuple #[.agg #[.int .i64 t168, .int .i64 t169, .int .i64 t170, .int .i64 t171, .int .i64 t172, .int .i64 t173, .int .i64 t174], .bool true]), (23, .agg #[.int .i64 t168, .int .i64 t169, .int .i64 t170, .int .i64 t171, .int .i64 t172, .int .i64 t173, .int .i64 t174]), (24, .bool true)]) (fun s_ w' => (w'.cell? ⟨gb165, 0, none⟩ = some (.int .i64 a1_0) ∧ w'.cell? ⟨gb165, 1, none⟩ = some (.int .i64 a1_1) ∧ w'.cell? ⟨gb165, 2, none⟩ = some (.int .i64 a1_2) ∧ w'.cell? ⟨gb165, 3, none⟩ = some (.int .i64 a1_3) ∧ w'.cell? ⟨gb165, 4, none⟩ = some (.int .i64 a1_4) ∧ w'.cell? ⟨gb165, 5, none⟩ = some (.int .i64 a1_5) ∧ w'.cell? ⟨gb165, 6, none⟩ = some (.int .i64 a1_6) ∧ w'.cell? (ad167.add ((t166).toNat * 3)) = some (.int .i64 ((rd_T48 l0 t166).f0)) ∧ w'.cell? ⟨(ad167.add ((t166).toNat * 3)).block, (ad167.add ((t166).toNat * 3)).off + 1, none⟩ = some (.slice A167_1 ((rd_T48 l0 t166).f1).length c167_1) ∧ w'.cell? ⟨(ad167.add ((t166).toNat * 3)).block, (ad167.add ((t166).toNat * 3)).off + 2, none⟩ = some (.int .i64 ((rd_T48 l0 t166).f2))) ∧ (w'.heap[gb165]? = some (.cells #[.int .i64 a1_0, .int .i64 a1_1, .int .i64 a1_2, .int .i64 a1_3, .int .i64 a1_4, .int .i64 a1_5, .int .i64 a1_6] 76 (0, 0))) ∧ (w'.heap[s_]? = some (.cells #[.int .i64 0, .int .i64 0, .int .i64 0, .int .i64 0, .int .i64 0, .int .i64 0, .int .i64 0] 76 (0, 0))) ∧ (w.heap.size ≤ s_) ∧ (w.heap.size ≤ s_) ∧ (gb165 ≠ s_) ∧ (s_ ≠ gb165) ∧ (Below w.heap.size w w')) ?_ ?_
     rotate_left
     ·intro hCont
      refine two_ (i := 6) (j := 10) (Ni := some 22) (Nj := some 6) #[true, true, true, true, true, true, true, false, false, false, false, false, false] #[true, true, true, true, true, true, false, false, false, false, true, false, false] rfl rfl rfl rfl (two_of HT_.out k_) (by decide) (by decide) (fun K hK => ?_) (fun K hK => ?_)
      ·skip
       refine goes_ Try.func52 k_ rfl #[.agg #[.int .i64 ((rd_T48 l0 t166).f0), .slice A167_1 ((rd_T48 l0 t166).f1).length c167_1, .int .i64 ((rd_T48 l0 t166).f2)], .agg #[.int .i64 a1_0, .int .i64 a1_1, .int .i64 a1_2, .int .i64 a1_3, .int .i64 a1_4, .int .i64 a1_5]] (by rfl) rfl rfl m_ ?_
       with_reducible refine (spec_StateFact.calls k ((rd_T48 l0 t166).f0) _ _ ((rd_T48 l0 t166).f1) ((rd_T48 l0 t166).f2) a1_0 a1_1 a1_2 a1_3 a1_4 a1_5 t168 t169 t170 t171 t172 t173 t174 true _ ?side1 ?side2 A9.out).mono ?_
       (case side1 => repeat (first | exact (Kd.C_below HR167_1.out HB.out) | (with_reducible refine Kd.C_alloc ?_ _) | (with_reducible refine Kd.C_drewN ?_ _) | (with_reducible refine Kd.C_drew ?_)))
       (case side2 => exact HC167_1.out)
       rintro e w14 ⟨rfl, hb⟩
       refine ⟨_, rfl, ?_⟩
       replace BK165 := Aside0.mk (blk_below (bo BK165) hb)
       replace HB := Aside0.mk (below_step h_ hb)
       (try clear hb)
       (try clear hb2)
       (try clear hk)
       (try clear hi)
       refine hK.out _ _ (a7 BK165.out ⟨(cl HB hw167_0), (cl HB hw167_1), (cl HB hw167_2)⟩) (fun hHeld => ?_)
       clear hK K; refine no 22 ?_; refine pu 7 15 ?_; refine pu 8 23 ?_; refine pu 9 24 ?_
       refine on 10 (some 6) (fun K hK => ?_)
       refine box_step ?hg (N := 6) ?hd (cs := #[.int .i64 0, .int .i64 0, .int .i64 0, .int .i64 0, .int .i64 0, .int .i64 0, .int .i64 0]) (t := 76) ?hr ?_; (case hd => rfl); (case hg => rfl); (case hr => first | (go_simp; done) | (go_simp; rfl))
       intro gb176 hg w15 hbox hb
       have BK176 := Aside0.mk (hbox)
       have GW176 := Aside0.mk ((z55_3 : w.heap.size ≤ gb176))
       have GE176 := Aside0.mk ((z55_3 : w.heap.size ≤ gb176))
       replace HB := Aside0.mk (below_step h_ hb)
       have NB165_176 := Aside0.mk ((by rw [hg]; exact Nat.ne_of_lt (blk_lt (bo BK165)) : gb165 ≠ gb176))
       have NB176_165 := Aside0.mk ((by rw [hg]; exact Nat.ne_of_gt (blk_lt (bo BK165)) : gb176 ≠ gb165))
       replace BK165 := Aside0.mk (blk_below (bo BK165) hb)
       clear hb hbox hg
       refine hK.out _ _ (a7 BK165.out ⟨(cl HB hw167_0), (cl HB hw167_1), (cl HB hw167_2)⟩) (fun hHeld => ?_)
       clear hK K; refine no 6 ?_
       exact norm_ z55_4 (hCont (gb176) _ ⟨hHeld, (b_ BK165.out), (b_ BK176.out), GW176.out, GE176.out, NB165_176.out, NB176_165.out, h_⟩)
      ·skip
       refine box_step ?hg (N := 6) ?hd (cs := #[.int .i64 0, .int .i64 0, .int .i64 0, .int .i64 0, .int .i64 0, .int .i64 0, .int .i64 0]) (t := 76) ?hr ?_; (case hd => rfl); (case hg => rfl); (case hr => first | (go_simp; done) | (go_simp; rfl))
       intro gb176 hg w14 hbox hb
       have BK176 := Aside0.mk (hbox)
       have GW176 := Aside0.mk ((z55_3 : w.heap.size ≤ gb176))
       have GE176 := Aside0.mk ((z55_3 : w.heap.size ≤ gb176))
       replace HB := Aside0.mk (below_step h_ hb)
       have NB165_176 := Aside0.mk ((by rw [hg]; exact Nat.ne_of_lt (blk_lt (bo BK165)) : gb165 ≠ gb176))
       have NB176_165 := Aside0.mk ((by rw [hg]; exact Nat.ne_of_gt (blk_lt (bo BK165)) : gb176 ≠ gb165))
       replace BK165 := Aside0.mk (blk_below (bo BK165) hb)
       clear hb hbox hg
       refine hK.out _ _ (a7 BK165.out ⟨(cl HB hw167_0), (cl HB hw167_1), (cl HB hw167_2)⟩) (fun hHeld => ?_)
       clear hK K; refine no 6 ?_
       refine on 6 (some 22) (fun K hK => ?_)
       refine goes_ Try.func52 k_ rfl #[.agg #[.int .i64 ((rd_T48 l0 t166).f0), .slice A167_1 ((rd_T48 l0 t166).f1).length c167_1, .int .i64 ((rd_T48 l0 t166).f2)], .agg #[.int .i64 a1_0, .int .i64 a1_1, .int .i64 a1_2, .int .i64 a1_3, .int .i64 a1_4, .int .i64 a1_5]] (by rfl) rfl rfl m_ ?_
       with_reducible refine (spec_StateFact.calls k ((rd_T48 l0 t166).f0) _ _ ((rd_T48 l0 t166).f1) ((rd_T48 l0 t166).f2) a1_0 a1_1 a1_2 a1_3 a1_4 a1_5 t168 t169 t170 t171 t172 t173 t174 true _ ?side1 ?side2 A9.out).mono ?_
       (case side1 => repeat (first | exact (Kd.C_below HR167_1.out HB.out) | (with_reducible refine Kd.C_alloc ?_ _) | (with_reducible refine Kd.C_drewN ?_ _) | (with_reducible refine Kd.C_drew ?_)))
       (case side2 => exact HC167_1.out)
       rintro e w15 ⟨rfl, hb⟩
       refine ⟨_, rfl, ?_⟩
       replace BK165 := Aside0.mk (blk_below (bo BK165) hb)
       replace BK176 := Aside0.mk (blk_below (bo BK176) hb)
       replace HB := Aside0.mk (below_step h_ hb)
       (try clear hb)
       (try clear hb2)
       (try clear hk)
       (try clear hi)
       refine hK.out _ _ (a7 BK165.out ⟨(cl HB hw167_0), (cl HB hw167_1), (cl HB hw167_2)⟩) (fun hHeld => ?_)
       clear hK K; refine no 22 ?_; refine pu 7 15 ?_; refine pu 8 23 ?_; refine pu 9 24 ?_
       exact norm_ z55_4 (hCont (gb176) _ ⟨hHeld, (b_ BK165.out), (b_ BK176.out), GW176.out, GE176.out, NB165_176.out, NB176_165.out, h_⟩)
     rintro gb176 w16 ⟨hS_, h0_, h1_, h2_, h3_, h4_, h5_, h6_⟩
     have n0_ : Aside0 (w16.heap[gb165]? = some (.cells #[.int .i64 a1_0, .int .i64 a1_1, .int .i64 a1_2, .int .i64 a1_3, .int .i64 a1_4, .int .i64 a1_5, .int .i64 a1_6] 76 (0, 0))) := ⟨h0_⟩
     have n1_ : Aside0 (w16.heap[gb176]? = some (.cells #[.int .i64 0, .int .i64 0, .int .i64 0, .int .i64 0, .int .i64 0, .int .i64 0, .int .i64 0] 76 (0, 0))) := ⟨h1_⟩
     have n2_ : Aside0 (w.heap.size ≤ gb176) := ⟨h2_⟩
     have n3_ : Aside0 (w.heap.size ≤ gb176) := ⟨h3_⟩
     have n4_ : Aside0 (gb165 ≠ gb176) := ⟨h4_⟩
     have n5_ : Aside0 (gb176 ≠ gb165) := ⟨h5_⟩
     have n6_ : Aside0 (Below w.heap.size w w16) := ⟨h6_⟩
     clear BK165; clear HB; clear h0_ h1_ h2_ h3_ h4_ h5_ h6_
     have BK165 := n0_
     have BK176 := n1_
     have GW176 := n2_
     have GE176 := n3_
     have NB165_176 := n4_
     have NB176_165 := n5_
     have HB := n6_
     clear n0_ n1_ n2_ n3_ n4_ n5_ n6_
     have hHeld : w16.cell? ⟨gb165, 0, none⟩ = some (.int .i64 a1_0) ∧ w16.cell? ⟨gb165, 1, none⟩ = some (.int .i64 a1_1) ∧ w16.cell? ⟨gb165, 2, none⟩ = some (.int .i64 a1_2) ∧ w16.cell? ⟨gb165, 3, none⟩ = some (.int .i64 a1_3) ∧ w16.cell? ⟨gb165, 4, none⟩ = some (.int .i64 a1_4) ∧ w16.cell? ⟨gb165, 5, none⟩ = some (.int .i64 a1_5) ∧ w16.cell? ⟨gb165, 6, none⟩ = some (.int .i64 a1_6) ∧ w16.cell? (ad167.add ((t166).toNat * 3)) = some (.int .i64 ((rd_T48 l0 t166).f0)) ∧ w16.cell? ⟨(ad167.add ((t166).toNat * 3)).block, (ad167.add ((t166).toNat * 3)).off + 1, none⟩ = some (.slice A167_1 ((rd_T48 l0 t166).f1).length c167_1) ∧ w16.cell? ⟨(ad167.add ((t166).toNat * 3)).block, (ad167.add ((t166).toNat * 3)).off + 2, none⟩ = some (.int .i64 ((rd_T48 l0 t166).f2)) := hS_
     refine norm_ (a' := ?_) ?_ ?_
     rotate_left
     ·simp only [putAll, Act.put, List.setIfInBounds_toArray, List.set_cons_zero, List.set_cons_succ]
      rfl
     refine on 11 none (fun K hK => ?_)
     obtain ⟨hs17, hfs17⟩ := d1 BK176.out
     have hns17_0 := NB165_176.out
     have hms17_0 := NB176_165.out
     have hs18 : w16.cell? ⟨gb176, 1, none⟩ = some (.int .i64 0) := (blk_cell BK176.out 1).trans rfl
     have hfs18 := blk_frozen BK176.out 1
     have hns18_0 := NB165_176.out
     have hms18_0 := NB176_165.out
     have hs19 : w16.cell? ⟨gb176, 2, none⟩ = some (.int .i64 0) := (blk_cell BK176.out 2).trans rfl
     have hfs19 := blk_frozen BK176.out 2
     have hns19_0 := NB165_176.out
     have hms19_0 := NB176_165.out
     have hs20 : w16.cell? ⟨gb176, 3, none⟩ = some (.int .i64 0) := (blk_cell BK176.out 3).trans rfl
     have hfs20 := blk_frozen BK176.out 3
     have hns20_0 := NB165_176.out
     have hms20_0 := NB176_165.out
     have hs21 : w16.cell? ⟨gb176, 4, none⟩ = some (.int .i64 0) := (blk_cell BK176.out 4).trans rfl
     have hfs21 := blk_frozen BK176.out 4
     have hns21_0 := NB165_176.out
     have hms21_0 := NB176_165.out
     have hs22 : w16.cell? ⟨gb176, 5, none⟩ = some (.int .i64 0) := (blk_cell BK176.out 5).trans rfl
     have hfs22 := blk_frozen BK176.out 5
     have hns22_0 := NB165_176.out
     have hms22_0 := NB176_165.out
     have hs23 : w16.cell? ⟨gb176, 6, none⟩ = some (.int .i64 0) := (blk_cell BK176.out 6).trans rfl
     have hfs23 := blk_frozen BK176.out 6
     have hns23_0 := NB165_176.out
     have hms23_0 := NB176_165.out
     refine skip_ (w1 := ?_) (by rfl) rfl ?_ ?_
     rotate_left
     ·go_simp
      rfl
     refine hK.out _ _ ⟨((cell_far (p := ⟨gb176, _, none⟩) NB165_176.out _).trans (((cell_far (p := ⟨gb176, _, none⟩) NB165_176.out _).trans (((cell_far (p := ⟨gb176, _, none⟩) NB165_176.out _).trans (((cell_far (p := ⟨gb176, _, none⟩) NB165_176.out _).trans (((cell_far (p := ⟨gb176, _, none⟩) NB165_176.out _).trans (((cell_far (p := ⟨gb176, _, none⟩) NB165_176.out _).trans (((cell_far (p := ⟨gb176, _, none⟩) NB165_176.out _).trans (hHeld.1)))))))))))))), ((cell_far (p := ⟨gb176, _, none⟩) NB165_176.out _).trans (((cell_far (p := ⟨gb176, _, none⟩) NB165_176.out _).trans (((cell_far (p := ⟨gb176, _, none⟩) NB165_176.out _).trans (((cell_far (p := ⟨gb176, _, none⟩) NB165_176.out _).trans (((cell_far (p := ⟨gb176, _, none⟩) NB165_176.out _).trans (((cell_far (p := ⟨gb176, _, none⟩) NB165_176.out _).trans (((cell_far (p := ⟨gb176, _, none⟩) NB165_176.out _).trans (hHeld.2.1)))))))))))))), ((cell_far (p := ⟨gb176, _, none⟩) NB165_176.out _).trans (((cell_far (p := ⟨gb176, _, none⟩) NB165_176.out _).trans (((cell_far (p := ⟨gb176, _, none⟩) NB165_176.out _).trans (((cell_far (p := ⟨gb176, _, none⟩) NB165_176.out _).trans (((cell_far (p := ⟨gb176, _, none⟩) NB165_176.out _).trans (((cell_far (p := ⟨gb176, _, none⟩) NB165_176.out _).trans (((cell_far (p := ⟨gb176, _, none⟩) NB165_176.out _).trans (hHeld.2.2.1)))))))))))))), ((cell_far (p := ⟨gb176, _, none⟩) NB165_176.out _).trans (((cell_far (p := ⟨gb176, _, none⟩) NB165_176.out _).trans (((cell_far (p := ⟨gb176, _, none⟩) NB165_176.out _).trans (((cell_far (p := ⟨gb176, _, none⟩) NB165_176.out _).trans (((cell_far (p := ⟨gb176, _, none⟩) NB165_176.out _).trans (((cell_far (p := ⟨gb176, _, none⟩) NB165_176.out _).trans (((cell_far (p := ⟨gb176, _, none⟩) NB165_176.out _).trans (hHeld.2.2.2.1)))))))))))))), ((cell_far (p := ⟨gb176, _, none⟩) NB165_176.out _).trans (((cell_far (p := ⟨gb176, _, none⟩) NB165_176.out _).trans (((cell_far (p := ⟨gb176, _, none⟩) NB165_176.out _).trans (((cell_far (p := ⟨gb176, _, none⟩) NB165_176.out _).trans (((cell_far (p := ⟨gb176, _, none⟩) NB165_176.out _).trans (((cell_far (p := ⟨gb176, _, none⟩) NB165_176.out _).trans (((cell_far (p := ⟨gb176, _, none⟩) NB165_176.out _).trans (hHeld.2.2.2.2.1)))))))))))))), ((cell_far (p := ⟨gb176, _, none⟩) NB165_176.out _).trans (((cell_far (p := ⟨gb176, _, none⟩) NB165_176.out _).trans (((cell_far (p := ⟨gb176, _, none⟩) NB165_176.out _).trans (((cell_far (p := ⟨gb176, _, none⟩) NB165_176.out _).trans (((cell_far (p := ⟨gb176, _, none⟩) NB165_176.out _).trans (((cell_far (p := ⟨gb176, _, none⟩) NB165_176.out _).trans (((cell_far (p := ⟨gb176, _, none⟩) NB165_176.out _).trans (hHeld.2.2.2.2.2.1)))))))))))))), ((cell_far (p := ⟨gb176, _, none⟩) NB165_176.out _).trans (((cell_far (p := ⟨gb176, _, none⟩) NB165_176.out _).trans (((cell_far (p := ⟨gb176, _, none⟩) NB165_176.out _).trans (((cell_far (p := ⟨gb176, _, none⟩) NB165_176.out _).trans (((cell_far (p := ⟨gb176, _, none⟩) NB165_176.out _).trans (((cell_far (p := ⟨gb176, _, none⟩) NB165_176.out _).trans (((cell_far (p := ⟨gb176, _, none⟩) NB165_176.out _).trans (hHeld.2.2.2.2.2.2.1)))))))))))))), ((cell_far (p := ⟨gb176, _, none⟩) z55_2 _).trans (((cell_far (p := ⟨gb176, _, none⟩) z55_2 _).trans (((cell_far (p := ⟨gb176, _, none⟩) z55_2 _).trans (((cell_far (p := ⟨gb176, _, none⟩) z55_2 _).trans (((cell_far (p := ⟨gb176, _, none⟩) z55_2 _).trans (((cell_far (p := ⟨gb176, _, none⟩) z55_2 _).trans (((cell_far (p := ⟨gb176, _, none⟩) z55_2 _).trans (hHeld.2.2.2.2.2.2.2.1)))))))))))))), ((cell_far (p := ⟨gb176, _, none⟩) z55_1 _).trans (((cell_far (p := ⟨gb176, _, none⟩) z55_1 _).trans (((cell_far (p := ⟨gb176, _, none⟩) z55_1 _).trans (((cell_far (p := ⟨gb176, _, none⟩) z55_1 _).trans (((cell_far (p := ⟨gb176, _, none⟩) z55_1 _).trans (((cell_far (p := ⟨gb176, _, none⟩) z55_1 _).trans (((cell_far (p := ⟨gb176, _, none⟩) z55_1 _).trans (hHeld.2.2.2.2.2.2.2.2.1)))))))))))))), ((cell_far (p := ⟨gb176, _, none⟩) z55_0 _).trans (((cell_far (p := ⟨gb176, _, none⟩) z55_0 _).trans (((cell_far (p := ⟨gb176, _, none⟩) z55_0 _).trans (((cell_far (p := ⟨gb176, _, none⟩) z55_0 _).trans (((cell_far (p := ⟨gb176, _, none⟩) z55_0 _).trans (((cell_far (p := ⟨gb176, _, none⟩) z55_0 _).trans (((cell_far (p := ⟨gb176, _, none⟩) z55_0 _).trans (hHeld.2.2.2.2.2.2.2.2.2))))))))))))))⟩ (fun hHeld => ?_)
     clear hK K; refine pu 12 7 ?_
     refine dn ?_
     have hnb24 := NB176_165.out
     have hnc24 := NB165_176.out
     obtain ⟨hcz25_0, hcz25_1, hcz25_2, hcz25_3, hcz25_4, hcz25_5, hcz25_6, hfz25_0, hfz25_1, hfz25_2, hfz25_3, hfz25_4, hfz25_5, hfz25_6⟩ := d7 BK176.out
     obtain ⟨hcz26_0, hcz26_1, hcz26_2, hcz26_3, hcz26_4, hcz26_5, hcz26_6, hfz26_0, hfz26_1, hfz26_2, hfz26_3, hfz26_4, hfz26_5, hfz26_6⟩ := d7 BK165.out
     try go_wp2
     go_ret
     exact ⟨e_, h_⟩
    ·replace c10 := Bool.eq_false_iff.mpr c10
     subst c10
     replace H := iF H
     obtain rfl := Option.some.inj H
     go_enter Try.func55, Try.ntmps55
     try go_wp2_with (first | ((with_reducible refine gate_dst (N := 3) rfl ?_); refine bx (N := 3) (cs := #[.int .i64 a1_0, .int .i64 a1_1, .int .i64 a1_2, .int .i64 a1_3, .int .i64 a1_4, .int .i64 a1_5, .int .i64 a1_6]) (t := 76) ?_; intro gb165 hg w27 hbox hb; have BK165 := Aside0.mk (hbox); have GW165 := Aside0.mk ((z55_3 : w.heap.size ≤ gb165)); have GE165 := Aside0.mk ((z55_3 : w.heap.size ≤ gb165)); replace HB := Aside0.mk (below_step h_ hb); clear hb hbox hg; obtain ⟨hcz28_0, hcz28_1, hcz28_2, hcz28_3, hcz28_4, hcz28_5, hcz28_6, hfz28_0, hfz28_1, hfz28_2, hfz28_3, hfz28_4, hfz28_5, hfz28_6⟩ := d7 BK165.out) | ((with_reducible refine gate_callee (f := 42) rfl ?_); refine goesL_ (some 12) rfl rfl Try.func42 k_ rfl #[.slice A0 l0.length c0, .int .i64 a1_3] rfl m_ ?_; (with_reducible refine (spec_FindIssuer.calls k _ _ l0 a1_3 t166 _ ?side1 ?side2 A3.out).mono ?_); (case side1 => exact n_ (Kd.C_below HR0.out HB.out)); (case side2 => exact HC0.out); rintro e w' ⟨rfl, ⟨nd, rfl⟩⟩; refine ⟨_, rfl, ?_⟩; (try (rw [drewN_self w27]; generalize hq_ : World.drewN w27 _ = w27; have n0_ : Aside0 (w27.heap[gb165]? = some (.cells #[.int .i64 a1_0, .int .i64 a1_1, .int .i64 a1_2, .int .i64 a1_3, .int .i64 a1_4, .int .i64 a1_5, .int .i64 a1_6] 76 (0, 0))) := ⟨by rw [← hq_]; exact (b_ BK165.out)⟩; have n1_ : Aside0 (Below w.heap.size w w27) := ⟨by rw [← hq_]; exact h_⟩; clear BK165 HB hq_; have BK165 := n0_; have HB := n1_; clear n0_ n1_; have hcz28_0 : w27.cell? ⟨gb165, 0, none⟩ = some (.int .i64 a1_0) := (blk_cell BK165.out 0).trans rfl; have hcz28_1 : w27.cell? ⟨gb165, 1, none⟩ = some (.int .i64 a1_1) := (blk_cell BK165.out 1).trans rfl; have hcz28_2 : w27.cell? ⟨gb165, 2, none⟩ = some (.int .i64 a1_2) := (blk_cell BK165.out 2).trans rfl; have hcz28_3 : w27.cell? ⟨gb165, 3, none⟩ = some (.int .i64 a1_3) := (blk_cell BK165.out 3).trans rfl; have hcz28_4 : w27.cell? ⟨gb165, 4, none⟩ = some (.int .i64 a1_4) := (blk_cell BK165.out 4).trans rfl; have hcz28_5 : w27.cell? ⟨gb165, 5, none⟩ = some (.int .i64 a1_5) := (blk_cell BK165.out 5).trans rfl; have hcz28_6 : w27.cell? ⟨gb165, 6, none⟩ = some (.int .i64 a1_6) := (blk_cell BK165.out 6).trans rfl; have hfz28_0 := blk_frozen BK165.out 0; have hfz28_1 := blk_frozen BK165.out 1; have hfz28_2 := blk_frozen BK165.out 2; have hfz28_3 := blk_frozen BK165.out 3; have hfz28_4 := blk_frozen BK165.out 4; have hfz28_5 := blk_frozen BK165.out 5; have hfz28_6 := blk_frozen BK165.out 6))))
     replace BK165 := Aside0.mk (blk_drew BK165.out)
     replace HB := Aside0.mk (below_drew1 HB.out)
     have p167 : 0 ≤ (t166 : Int) := of_decide_eq_true s_
     have q167 : t166 < (l0.length : Int) := of_decide_eq_true s_
     obtain ⟨ad167, A167_1, c167_1, e167, hx167_0, hx167_1, hx167_2, hl167_1, hi167_1⟩ := at_T48 HR0.out t166 p167 q167
     have hw167_2 := hx167_2; have hw167_1 := hx167_1; have hw167_0 := hx167_0
     cases e167
     replace hx167_0 := cl HB hx167_0; replace hx167_1 := cl HB hx167_1; replace hx167_2 := cl HB hx167_2
     have HR167_1 := Aside0.mk hi167_1
     have HC167_1 := Aside0.mk hl167_1
     clear hi167_1 hl167_1
     replace p167 := eq_true p167
     replace q167 := eq_true q167
     refine start_ (n := 13) (S := fun w' => w'.cell? ⟨gb165, 0, none⟩ = some (.int .i64 a1_0) ∧ w'.cell? ⟨gb165, 1, none⟩ = some (.int .i64 a1_1) ∧ w'.cell? ⟨gb165, 2, none⟩ = some (.int .i64 a1_2) ∧ w'.cell? ⟨gb165, 3, none⟩ = some (.int .i64 a1_3) ∧ w'.cell? ⟨gb165, 4, none⟩ = some (.int .i64 a1_4) ∧ w'.cell? ⟨gb165, 5, none⟩ = some (.int .i64 a1_5) ∧ w'.cell? ⟨gb165, 6, none⟩ = some (.int .i64 a1_6) ∧ w'.cell? (ad167.add ((t166).toNat * 3)) = some (.int .i64 ((rd_T48 l0 t166).f0)) ∧ w'.cell? ⟨(ad167.add ((t166).toNat * 3)).block, (ad167.add ((t166).toNat * 3)).off + 1, none⟩ = some (.slice A167_1 ((rd_T48 l0 t166).f1).length c167_1) ∧ w'.cell? ⟨(ad167.add ((t166).toNat * 3)).block, (ad167.add ((t166).toNat * 3)).off + 2, none⟩ = some (.int .i64 ((rd_T48 l0 t166).f2))) (ds := []) #[false, false, false, false, false, false, false, false, false, false, false, false, false] k_ rfl rfl (a7 BK165.out ⟨(cl HB hw167_0), (cl HB hw167_1), (cl HB hw167_2)⟩) (fun hHeld => ?_); refine with_tabW spec_IsBelieved.tab4 spec_IsBelieved.bits4 (fun HT_ HW_ => ?_)
     generalize w27.drew = w29 at BK165 HB HR167_1 hx167_0 hx167_1 hx167_2 hHeld ⊢
     refine pu 0 16 ?_; refine pu 1 17 ?_; refine pu 2 18 ?_; refine pu 4 20 ?_; refine ta 3 19 ?_; refine ta 5 21 ?_
     refine join_ (σ := Nat) 2 #[true, true, true, true, true, true, true, true, true, true, true, false, false] (fun s_ => [(22, .tuple #[.agg #[.int .i64 t168, .int .i64 t169, .int .i64 t170, .int .i64 t171, .int .i64 t172, .int .i64 t173, .int .i64 t174], .bool false]), (6, .pointer (some ⟨s_, 0, none⟩)), (15, .tuple #[.agg #[.int .i64 t168, .int .i64 t169, .int .i64 t170, .int .i64 t171, .int .i64 t172, .int .i64 t173, .int .i64 t174], .bool false]), (23, .agg #[.int .i64 t168, .int .i64 t169, .int .i64 t170, .int .i64 t171, .int .i64 t172, .int .i64 t173, .int .i64 t174]), (24, .bool false)]) (fun s_ w' => (w'.cell? ⟨gb165, 0, none⟩ = some (.int .i64 a1_0) ∧ w'.cell? ⟨gb165, 1, none⟩ = some (.int .i64 a1_1) ∧ w'.cell? ⟨gb165, 2, none⟩ = some (.int .i64 a1_2) ∧ w'.cell? ⟨gb165, 3, none⟩ = some (.int .i64 a1_3) ∧ w'.cell? ⟨gb165, 4, none⟩ = some (.int .i64 a1_4) ∧ w'.cell? ⟨gb165, 5, none⟩ = some (.int .i64 a1_5) ∧ w'.cell? ⟨gb165, 6, none⟩ = some (.int .i64 a1_6) ∧ w'.cell? (ad167.add ((t166).toNat * 3)) = some (.int .i64 ((rd_T48 l0 t166).f0)) ∧ w'.cell? ⟨(ad167.add ((t166).toNat * 3)).block, (ad167.add ((t166).toNat * 3)).off + 1, none⟩ = some (.slice A167_1 ((rd_T48 l0 t166).f1).length c167_1) ∧ w'.cell? ⟨(ad167.add ((t166).toNat * 3)).block, (ad167.add ((t166).toNat * 3)).off + 2, none⟩ = some (.int .i64 ((rd_T48 l0 t166).f2))) ∧ (w'.heap[gb165]? = some (.cells #[.int .i64 a1_0, .int .i64 a1_1, .int .i64 a1_2, .int .i64 a1_3, .int .i64 a1_4, .int .i64 a1_5, .int .i64 a1_6] 76 (0, 0))) ∧ (w'.heap[s_]? = some (.cells #[.int .i64 0, .int .i64 0, .int .i64 0, .int .i64 0, .int .i64 0, .int .i64 0, .int .i64 0] 76 (0, 0))) ∧ (w.heap.size ≤ s_) ∧ (w.heap.size ≤ s_) ∧ (gb165 ≠ s_) ∧ (s_ ≠ gb165) ∧ (Below w.heap.size w w')) ?_ ?_
     rotate_left
     ·intro hCont
      refine two_ (i := 6) (j := 10) (Ni := some 22) (Nj := some 6) #[true, true, true, true, true, true, true, false, false, false, false, false, false] #[true, true, true, true, true, true, false, false, false, false, true, false, false] rfl rfl rfl rfl (two_of HT_.out k_) (by decide) (by decide) (fun K hK => ?_) (fun K hK => ?_)
      ·skip
       refine goes_ Try.func52 k_ rfl #[.agg #[.int .i64 ((rd_T48 l0 t166).f0), .slice A167_1 ((rd_T48 l0 t166).f1).length c167_1, .int .i64 ((rd_T48 l0 t166).f2)], .agg #[.int .i64 a1_0, .int .i64 a1_1, .int .i64 a1_2, .int .i64 a1_3, .int .i64 a1_4, .int .i64 a1_5]] (by rfl) rfl rfl m_ ?_
       with_reducible refine (spec_StateFact.calls k ((rd_T48 l0 t166).f0) _ _ ((rd_T48 l0 t166).f1) ((rd_T48 l0 t166).f2) a1_0 a1_1 a1_2 a1_3 a1_4 a1_5 t168 t169 t170 t171 t172 t173 t174 false _ ?side1 ?side2 A9.out).mono ?_
       (case side1 => repeat (first | exact (Kd.C_below HR167_1.out HB.out) | (with_reducible refine Kd.C_alloc ?_ _) | (with_reducible refine Kd.C_drewN ?_ _) | (with_reducible refine Kd.C_drew ?_)))
       (case side2 => exact HC167_1.out)
       rintro e w30 ⟨rfl, hb⟩
       refine ⟨_, rfl, ?_⟩
       replace BK165 := Aside0.mk (blk_below (bo BK165) hb)
       replace HB := Aside0.mk (below_step h_ hb)
       (try clear hb)
       (try clear hb2)
       (try clear hk)
       (try clear hi)
       refine hK.out _ _ (a7 BK165.out ⟨(cl HB hw167_0), (cl HB hw167_1), (cl HB hw167_2)⟩) (fun hHeld => ?_)
       clear hK K; refine no 22 ?_; refine pu 7 15 ?_; refine pu 8 23 ?_; refine pu 9 24 ?_
       refine on 10 (some 6) (fun K hK => ?_)
       refine box_step ?hg (N := 6) ?hd (cs := #[.int .i64 0, .int .i64 0, .int .i64 0, .int .i64 0, .int .i64 0, .int .i64 0, .int .i64 0]) (t := 76) ?hr ?_; (case hd => rfl); (case hg => rfl); (case hr => first | (go_simp; done) | (go_simp; rfl))
       intro gb176 hg w31 hbox hb
       have BK176 := Aside0.mk (hbox)
       have GW176 := Aside0.mk ((z55_3 : w.heap.size ≤ gb176))
       have GE176 := Aside0.mk ((z55_3 : w.heap.size ≤ gb176))
       replace HB := Aside0.mk (below_step h_ hb)
       have NB165_176 := Aside0.mk ((by rw [hg]; exact Nat.ne_of_lt (blk_lt (bo BK165)) : gb165 ≠ gb176))
       have NB176_165 := Aside0.mk ((by rw [hg]; exact Nat.ne_of_gt (blk_lt (bo BK165)) : gb176 ≠ gb165))
       replace BK165 := Aside0.mk (blk_below (bo BK165) hb)
       clear hb hbox hg
       refine hK.out _ _ (a7 BK165.out ⟨(cl HB hw167_0), (cl HB hw167_1), (cl HB hw167_2)⟩) (fun hHeld => ?_)
       clear hK K; refine no 6 ?_
       exact norm_ z55_4 (hCont (gb176) _ ⟨hHeld, (b_ BK165.out), (b_ BK176.out), GW176.out, GE176.out, NB165_176.out, NB176_165.out, h_⟩)
      ·skip
       refine box_step ?hg (N := 6) ?hd (cs := #[.int .i64 0, .int .i64 0, .int .i64 0, .int .i64 0, .int .i64 0, .int .i64 0, .int .i64 0]) (t := 76) ?hr ?_; (case hd => rfl); (case hg => rfl); (case hr => first | (go_simp; done) | (go_simp; rfl))
       intro gb176 hg w30 hbox hb
       have BK176 := Aside0.mk (hbox)
       have GW176 := Aside0.mk ((z55_3 : w.heap.size ≤ gb176))
       have GE176 := Aside0.mk ((z55_3 : w.heap.size ≤ gb176))
       replace HB := Aside0.mk (below_step h_ hb)
       have NB165_176 := Aside0.mk ((by rw [hg]; exact Nat.ne_of_lt (blk_lt (bo BK165)) : gb165 ≠ gb176))
       have NB176_165 := Aside0.mk ((by rw [hg]; exact Nat.ne_of_gt (blk_lt (bo BK165)) : gb176 ≠ gb165))
       replace BK165 := Aside0.mk (blk_below (bo BK165) hb)
       clear hb hbox hg
       refine hK.out _ _ (a7 BK165.out ⟨(cl HB hw167_0), (cl HB hw167_1), (cl HB hw167_2)⟩) (fun hHeld => ?_)
       clear hK K; refine no 6 ?_
       refine on 6 (some 22) (fun K hK => ?_)
       refine goes_ Try.func52 k_ rfl #[.agg #[.int .i64 ((rd_T48 l0 t166).f0), .slice A167_1 ((rd_T48 l0 t166).f1).length c167_1, .int .i64 ((rd_T48 l0 t166).f2)], .agg #[.int .i64 a1_0, .int .i64 a1_1, .int .i64 a1_2, .int .i64 a1_3, .int .i64 a1_4, .int .i64 a1_5]] (by rfl) rfl rfl m_ ?_
       with_reducible refine (spec_StateFact.calls k ((rd_T48 l0 t166).f0) _ _ ((rd_T48 l0 t166).f1) ((rd_T48 l0 t166).f2) a1_0 a1_1 a1_2 a1_3 a1_4 a1_5 t168 t169 t170 t171 t172 t173 t174 false _ ?side1 ?side2 A9.out).mono ?_
       (case side1 => repeat (first | exact (Kd.C_below HR167_1.out HB.out) | (with_reducible refine Kd.C_alloc ?_ _) | (with_reducible refine Kd.C_drewN ?_ _) | (with_reducible refine Kd.C_drew ?_)))
       (case side2 => exact HC167_1.out)
       rintro e w31 ⟨rfl, hb⟩
       refine ⟨_, rfl, ?_⟩
       replace BK165 := Aside0.mk (blk_below (bo BK165) hb)
       replace BK176 := Aside0.mk (blk_below (bo BK176) hb)
       replace HB := Aside0.mk (below_step h_ hb)
       (try clear hb)
       (try clear hb2)
       (try clear hk)
       (try clear hi)
       refine hK.out _ _ (a7 BK165.out ⟨(cl HB hw167_0), (cl HB hw167_1), (cl HB hw167_2)⟩) (fun hHeld => ?_)
       clear hK K; refine no 22 ?_; refine pu 7 15 ?_; refine pu 8 23 ?_; refine pu 9 24 ?_
       exact norm_ z55_4 (hCont (gb176) _ ⟨hHeld, (b_ BK165.out), (b_ BK176.out), GW176.out, GE176.out, NB165_176.out, NB176_165.out, h_⟩)
     rintro gb176 w32 ⟨hS_, h0_, h1_, h2_, h3_, h4_, h5_, h6_⟩
     have n0_ : Aside0 (w32.heap[gb165]? = some (.cells #[.int .i64 a1_0, .int .i64 a1_1, .int .i64 a1_2, .int .i64 a1_3, .int .i64 a1_4, .int .i64 a1_5, .int .i64 a1_6] 76 (0, 0))) := ⟨h0_⟩
     have n1_ : Aside0 (w32.heap[gb176]? = some (.cells #[.int .i64 0, .int .i64 0, .int .i64 0, .int .i64 0, .int .i64 0, .int .i64 0, .int .i64 0] 76 (0, 0))) := ⟨h1_⟩
     have n2_ : Aside0 (w.heap.size ≤ gb176) := ⟨h2_⟩
     have n3_ : Aside0 (w.heap.size ≤ gb176) := ⟨h3_⟩
     have n4_ : Aside0 (gb165 ≠ gb176) := ⟨h4_⟩
     have n5_ : Aside0 (gb176 ≠ gb165) := ⟨h5_⟩
     have n6_ : Aside0 (Below w.heap.size w w32) := ⟨h6_⟩
     clear BK165; clear HB; clear h0_ h1_ h2_ h3_ h4_ h5_ h6_
     have BK165 := n0_
     have BK176 := n1_
     have GW176 := n2_
     have GE176 := n3_
     have NB165_176 := n4_
     have NB176_165 := n5_
     have HB := n6_
     clear n0_ n1_ n2_ n3_ n4_ n5_ n6_
     have hHeld : w32.cell? ⟨gb165, 0, none⟩ = some (.int .i64 a1_0) ∧ w32.cell? ⟨gb165, 1, none⟩ = some (.int .i64 a1_1) ∧ w32.cell? ⟨gb165, 2, none⟩ = some (.int .i64 a1_2) ∧ w32.cell? ⟨gb165, 3, none⟩ = some (.int .i64 a1_3) ∧ w32.cell? ⟨gb165, 4, none⟩ = some (.int .i64 a1_4) ∧ w32.cell? ⟨gb165, 5, none⟩ = some (.int .i64 a1_5) ∧ w32.cell? ⟨gb165, 6, none⟩ = some (.int .i64 a1_6) ∧ w32.cell? (ad167.add ((t166).toNat * 3)) = some (.int .i64 ((rd_T48 l0 t166).f0)) ∧ w32.cell? ⟨(ad167.add ((t166).toNat * 3)).block, (ad167.add ((t166).toNat * 3)).off + 1, none⟩ = some (.slice A167_1 ((rd_T48 l0 t166).f1).length c167_1) ∧ w32.cell? ⟨(ad167.add ((t166).toNat * 3)).block, (ad167.add ((t166).toNat * 3)).off + 2, none⟩ = some (.int .i64 ((rd_T48 l0 t166).f2)) := hS_
     refine norm_ (a' := ?_) ?_ ?_
     rotate_left
     ·simp only [putAll, Act.put, List.setIfInBounds_toArray, List.set_cons_zero, List.set_cons_succ]
      rfl
     refine on 11 none (fun K hK => ?_)
     obtain ⟨hs33, hfs33⟩ := d1 BK176.out
     have hns33_0 := NB165_176.out
     have hms33_0 := NB176_165.out
     have hs34 : w32.cell? ⟨gb176, 1, none⟩ = some (.int .i64 0) := (blk_cell BK176.out 1).trans rfl
     have hfs34 := blk_frozen BK176.out 1
     have hns34_0 := NB165_176.out
     have hms34_0 := NB176_165.out
     have hs35 : w32.cell? ⟨gb176, 2, none⟩ = some (.int .i64 0) := (blk_cell BK176.out 2).trans rfl
     have hfs35 := blk_frozen BK176.out 2
     have hns35_0 := NB165_176.out
     have hms35_0 := NB176_165.out
     have hs36 : w32.cell? ⟨gb176, 3, none⟩ = some (.int .i64 0) := (blk_cell BK176.out 3).trans rfl
     have hfs36 := blk_frozen BK176.out 3
     have hns36_0 := NB165_176.out
     have hms36_0 := NB176_165.out
     have hs37 : w32.cell? ⟨gb176, 4, none⟩ = some (.int .i64 0) := (blk_cell BK176.out 4).trans rfl
     have hfs37 := blk_frozen BK176.out 4
     have hns37_0 := NB165_176.out
     have hms37_0 := NB176_165.out
     have hs38 : w32.cell? ⟨gb176, 5, none⟩ = some (.int .i64 0) := (blk_cell BK176.out 5).trans rfl
     have hfs38 := blk_frozen BK176.out 5
     have hns38_0 := NB165_176.out
     have hms38_0 := NB176_165.out
     have hs39 : w32.cell? ⟨gb176, 6, none⟩ = some (.int .i64 0) := (blk_cell BK176.out 6).trans rfl
     have hfs39 := blk_frozen BK176.out 6
     have hns39_0 := NB165_176.out
     have hms39_0 := NB176_165.out
     refine skip_ (w1 := ?_) (by rfl) rfl ?_ ?_
     rotate_left
     ·go_simp
      rfl
     refine hK.out _ _ ⟨((cell_far (p := ⟨gb176, _, none⟩) NB165_176.out _).trans (((cell_far (p := ⟨gb176, _, none⟩) NB165_176.out _).trans (((cell_far (p := ⟨gb176, _, none⟩) NB165_176.out _).trans (((cell_far (p := ⟨gb176, _, none⟩) NB165_176.out _).trans (((cell_far (p := ⟨gb176, _, none⟩) NB165_176.out _).trans (((cell_far (p := ⟨gb176, _, none⟩) NB165_176.out _).trans (((cell_far (p := ⟨gb176, _, none⟩) NB165_176.out _).trans (hHeld.1)))))))))))))), ((cell_far (p := ⟨gb176, _, none⟩) NB165_176.out _).trans (((cell_far (p := ⟨gb176, _, none⟩) NB165_176.out _).trans (((cell_far (p := ⟨gb176, _, none⟩) NB165_176.out _).trans (((cell_far (p := ⟨gb176, _, none⟩) NB165_176.out _).trans (((cell_far (p := ⟨gb176, _, none⟩) NB165_176.out _).trans (((cell_far (p := ⟨gb176, _, none⟩) NB165_176.out _).trans (((cell_far (p := ⟨gb176, _, none⟩) NB165_176.out _).trans (hHeld.2.1)))))))))))))), ((cell_far (p := ⟨gb176, _, none⟩) NB165_176.out _).trans (((cell_far (p := ⟨gb176, _, none⟩) NB165_176.out _).trans (((cell_far (p := ⟨gb176, _, none⟩) NB165_176.out _).trans (((cell_far (p := ⟨gb176, _, none⟩) NB165_176.out _).trans (((cell_far (p := ⟨gb176, _, none⟩) NB165_176.out _).trans (((cell_far (p := ⟨gb176, _, none⟩) NB165_176.out _).trans (((cell_far (p := ⟨gb176, _, none⟩) NB165_176.out _).trans (hHeld.2.2.1)))))))))))))), ((cell_far (p := ⟨gb176, _, none⟩) NB165_176.out _).trans (((cell_far (p := ⟨gb176, _, none⟩) NB165_176.out _).trans (((cell_far (p := ⟨gb176, _, none⟩) NB165_176.out _).trans (((cell_far (p := ⟨gb176, _, none⟩) NB165_176.out _).trans (((cell_far (p := ⟨gb176, _, none⟩) NB165_176.out _).trans (((cell_far (p := ⟨gb176, _, none⟩) NB165_176.out _).trans (((cell_far (p := ⟨gb176, _, none⟩) NB165_176.out _).trans (hHeld.2.2.2.1)))))))))))))), ((cell_far (p := ⟨gb176, _, none⟩) NB165_176.out _).trans (((cell_far (p := ⟨gb176, _, none⟩) NB165_176.out _).trans (((cell_far (p := ⟨gb176, _, none⟩) NB165_176.out _).trans (((cell_far (p := ⟨gb176, _, none⟩) NB165_176.out _).trans (((cell_far (p := ⟨gb176, _, none⟩) NB165_176.out _).trans (((cell_far (p := ⟨gb176, _, none⟩) NB165_176.out _).trans (((cell_far (p := ⟨gb176, _, none⟩) NB165_176.out _).trans (hHeld.2.2.2.2.1)))))))))))))), ((cell_far (p := ⟨gb176, _, none⟩) NB165_176.out _).trans (((cell_far (p := ⟨gb176, _, none⟩) NB165_176.out _).trans (((cell_far (p := ⟨gb176, _, none⟩) NB165_176.out _).trans (((cell_far (p := ⟨gb176, _, none⟩) NB165_176.out _).trans (((cell_far (p := ⟨gb176, _, none⟩) NB165_176.out _).trans (((cell_far (p := ⟨gb176, _, none⟩) NB165_176.out _).trans (((cell_far (p := ⟨gb176, _, none⟩) NB165_176.out _).trans (hHeld.2.2.2.2.2.1)))))))))))))), ((cell_far (p := ⟨gb176, _, none⟩) NB165_176.out _).trans (((cell_far (p := ⟨gb176, _, none⟩) NB165_176.out _).trans (((cell_far (p := ⟨gb176, _, none⟩) NB165_176.out _).trans (((cell_far (p := ⟨gb176, _, none⟩) NB165_176.out _).trans (((cell_far (p := ⟨gb176, _, none⟩) NB165_176.out _).trans (((cell_far (p := ⟨gb176, _, none⟩) NB165_176.out _).trans (((cell_far (p := ⟨gb176, _, none⟩) NB165_176.out _).trans (hHeld.2.2.2.2.2.2.1)))))))))))))), ((cell_far (p := ⟨gb176, _, none⟩) z55_2 _).trans (((cell_far (p := ⟨gb176, _, none⟩) z55_2 _).trans (((cell_far (p := ⟨gb176, _, none⟩) z55_2 _).trans (((cell_far (p := ⟨gb176, _, none⟩) z55_2 _).trans (((cell_far (p := ⟨gb176, _, none⟩) z55_2 _).trans (((cell_far (p := ⟨gb176, _, none⟩) z55_2 _).trans (((cell_far (p := ⟨gb176, _, none⟩) z55_2 _).trans (hHeld.2.2.2.2.2.2.2.1)))))))))))))), ((cell_far (p := ⟨gb176, _, none⟩) z55_1 _).trans (((cell_far (p := ⟨gb176, _, none⟩) z55_1 _).trans (((cell_far (p := ⟨gb176, _, none⟩) z55_1 _).trans (((cell_far (p := ⟨gb176, _, none⟩) z55_1 _).trans (((cell_far (p := ⟨gb176, _, none⟩) z55_1 _).trans (((cell_far (p := ⟨gb176, _, none⟩) z55_1 _).trans (((cell_far (p := ⟨gb176, _, none⟩) z55_1 _).trans (hHeld.2.2.2.2.2.2.2.2.1)))))))))))))), ((cell_far (p := ⟨gb176, _, none⟩) z55_0 _).trans (((cell_far (p := ⟨gb176, _, none⟩) z55_0 _).trans (((cell_far (p := ⟨gb176, _, none⟩) z55_0 _).trans (((cell_far (p := ⟨gb176, _, none⟩) z55_0 _).trans (((cell_far (p := ⟨gb176, _, none⟩) z55_0 _).trans (((cell_far (p := ⟨gb176, _, none⟩) z55_0 _).trans (((cell_far (p := ⟨gb176, _, none⟩) z55_0 _).trans (hHeld.2.2.2.2.2.2.2.2.2))))))))))))))⟩ (fun hHeld => ?_)
     clear hK K; refine pu 12 7 ?_
     refine dn ?_
     try go_wp2
     go_ret
     exact ⟨e_, h_⟩
   ·rw [if_neg c8] at H
    exact absurd H (by simp)
  ·rw [if_neg c7] at H
   exact absurd H (by simp)

/-! ### spec_l7Copy: function 65 -/
def spec_l7Copy.f (l0 : List (S55)) : Option ((List (S55))) := (some (([] : List (S55)) : List (S55))).bind fun y177 => (if y177.length + l0.length < 2932031007402 then (some (y177 ++ l0)) else (none))
set_option maxHeartbeats 8000000 in
set_option maxRecDepth 100000 in
theorem spec_l7Copy.calls (A0 : Option Addr) (c0 : Nat) (l0 : List (S55)) (r : List (S55)) (w : World) (hr0 : Kd.C k55 w A0 l0.length l0) (hc0 : l0.length ≤ c0) (h : spec_l7Copy.f l0 = some r) :
  Calls Try.prog 65 #[.slice A0 l0.length c0] w fun e w' => ∃ v0_ : Value, e = .returned (v0_) ∧ Kd.R k55 55 w' w.heap.size (fun _ => True) v0_ r ∧ Below w.heap.size w w' := by
 have HR0 := Aside0.mk hr0
 have HC0 := Aside0.mk hc0
 clear hr0 hc0
 have HB := Aside0.mk (Below.refl w.heap.size w)
 have H : ((some (([] : List (S55)) : List (S55))).bind fun y177 => (if y177.length + l0.length < 2932031007402 then (some (y177 ++ l0)) else (none))) = some r := h
 clear h
 obtain ⟨y177, hy177⟩ : ∃ y_ : List (S55), y_ = (([] : List (S55))) := ⟨_, rfl⟩
 replace H : (if y177.length + l0.length < 2932031007402 then (some (y177 ++ l0)) else (none)) = some r := by first | (rw [hy177]; with_reducible exact H) | (have H2_ := (Option.bind_some _ _).symm.trans H; rw [hy177]; with_reducible exact H2_) | (have H2_ := (Option.bind_some _ _).symm.trans H; with_reducible exact H2_) | with_reducible exact H | (rw [hy177]; exact H) | exact H
 have Ny177 := Aside0.mk hy177
 clear hy177
 by_cases c2 : y177.length + l0.length < 2932031007402
 ·rw [if_pos c2] at H
  have LMc2 := Aside0.mk c2
  clear c2
  obtain ⟨y180, hy180⟩ : ∃ y_ : List (S55), y_ = (y177 ++ l0) := ⟨_, rfl⟩
  replace H : (some y180) = some r := by first | (rw [hy180]; with_reducible exact H) | (have H2_ := (Option.bind_some _ _).symm.trans H; rw [hy180]; with_reducible exact H2_) | (have H2_ := (Option.bind_some _ _).symm.trans H; with_reducible exact H2_) | with_reducible exact H | (rw [hy180]; exact H) | exact H
  have Ny180 := Aside0.mk hy180
  clear hy180
  obtain rfl := Option.some.inj H
  go_enter Try.func65, Try.ntmps65
  go_wp2_with (first | ((with_reducible refine gate_dst (N := 3) rfl ?_); refine Kd.R_lit k55 _ 55 ?hg (N := 3) ?hd (xs := ([] : List (S55))) (inner := []) (ok := fun _ => True) (okp := fun _ => True) ?hr ?hp (fun _ hk => hk) trivial (Below.refl _ _) (Nat.le_refl _) (by simp) ?_; (case hd => rfl); (case hg => rfl); (case hr => first | (go_simp; done) | (go_simp; rfl)); (case hp => exact (Reps.none _ _)); intro v178 w3 ho4 hb hg_ hnew_; clear hg_ hnew_; (first | rw [← Ny177.out] at ho4 | (simp only [Int.reduceToNat] at ho4; rw [← Ny177.out] at ho4)); have HO179 := Aside0.mk (Kd.R_lower ho4 (below_size h_)); replace HB := Aside0.mk (below_step h_ hb); clear hb ho4) | ((with_reducible refine gate_builtin (b := .append) (xs := #[.tmp 3, .tmp 4]) rfl ?_); at_builtin; refine Kd.R_append_rows k55 (w0 := w) w.heap.size rfl (.tmp 3) (.tmp 4) 28 55 (.agg #[(.int .i64 0), (.int .i64 0), (.int .i64 0), (.int .i64 0), (.int .i64 0), (.int .i64 0)]) 48 rfl Try.underlying28 info55 rfl (by decide) (by omega) v178 y177 l0 _ _ _ (fun _ => True) (fun _ => False) rfl rfl ?aO ?aR (fun _ _ h => h) (fun _ h => h.elim) ?aF ?aB ?aS ?aL ?_; (case aR => repeat (first | exact (Kd.C_below HR0.out HB.out) | (with_reducible refine Kd.C_alloc ?_ _) | (with_reducible refine Kd.C_drewN ?_ _) | (with_reducible refine Kd.C_drew ?_))); (case aB => exact h_); (case aF => exact (fun _ _ => trivial)); (case aO => exact (q_ HO179.out)); (case aS => exact (below_size h_)); (case aL => have := LMc2.out; omega); intro v181 w5 ho hb hg hat; rw [← Ny180.out] at ho; replace HB := Aside0.mk (hb); have HO182 := Aside0.mk (ho); clear HO179; clear ho hb hg hat))
  go_ret
  exact ⟨_, e_, by (with_reducible repeat (first | apply Kd.R_alloc | apply Kd.R_drewN | apply Kd.R_drew)); exact HO182.out, h_⟩
 ·rw [if_neg c2] at H
  exact absurd H (by simp)

/-! ### spec_FactBefore: function 108 -/
def spec_FactBefore.f (a0_0 : Int) (a0_1 : Int) (a0_2 : Int) (a0_3 : Int) (a0_4 : Int) (a0_5 : Int) (a1_0 : Int) (a1_1 : Int) (a1_2 : Int) (a1_3 : Int) (a1_4 : Int) (a1_5 : Int) : Option (Bool) := if a0_0 = a1_0 then (if a0_1 = a1_1 then (if a0_2 = a1_2 then (some (decide (a0_3 < a1_3))) else (some (decide (a0_2 < a1_2)))) else (some (decide (a0_1 < a1_1)))) else (some (decide (a0_0 < a1_0)))
theorem z108_0 {Q : Prop} (g : Q := by rw [hg]; exact (below_size h_)) : Q := g
set_option maxHeartbeats 8000000 in
set_option maxRecDepth 100000 in
theorem spec_FactBefore.calls (a0_0 : Int) (a0_1 : Int) (a0_2 : Int) (a0_3 : Int) (a0_4 : Int) (a0_5 : Int) (a1_0 : Int) (a1_1 : Int) (a1_2 : Int) (a1_3 : Int) (a1_4 : Int) (a1_5 : Int) (r : Bool) (w : World) (h : spec_FactBefore.f a0_0 a0_1 a0_2 a0_3 a0_4 a0_5 a1_0 a1_1 a1_2 a1_3 a1_4 a1_5 = some r) :
  Calls Try.prog 108 #[.agg #[.int .i64 a0_0, .int .i64 a0_1, .int .i64 a0_2, .int .i64 a0_3, .int .i64 a0_4, .int .i64 a0_5], .agg #[.int .i64 a1_0, .int .i64 a1_1, .int .i64 a1_2, .int .i64 a1_3, .int .i64 a1_4, .int .i64 a1_5]] w fun e w' => e = .returned (.bool r) ∧ Below w.heap.size w w' := by
 have hu55 := Try.underlying55
 have HB := Aside0.mk (Below.refl w.heap.size w)
 have H : (if a0_0 = a1_0 then (if a0_1 = a1_1 then (if a0_2 = a1_2 then (some (decide (a0_3 < a1_3))) else (some (decide (a0_2 < a1_2)))) else (some (decide (a0_1 < a1_1)))) else (some (decide (a0_0 < a1_0)))) = some r := h
 clear h
 by_cases c3 : a0_0 = a1_0
 ·rw [if_pos c3] at H
  have c3b0 : (a0_0 == a1_0) = true := beq_iff_eq.mpr c3
  have c3b1 : (a0_0 != a1_0) = false := bne_eq_false_iff_eq.mpr c3
  clear c3
  by_cases c4 : a0_1 = a1_1
  ·rw [if_pos c4] at H
   have c4b0 : (a0_1 == a1_1) = true := beq_iff_eq.mpr c4
   have c4b1 : (a0_1 != a1_1) = false := bne_eq_false_iff_eq.mpr c4
   clear c4
   by_cases c5 : a0_2 = a1_2
   ·rw [if_pos c5] at H
    have c5b0 : (a0_2 == a1_2) = true := beq_iff_eq.mpr c5
    have c5b1 : (a0_2 != a1_2) = false := bne_eq_false_iff_eq.mpr c5
    clear c5
    obtain rfl := Option.some.inj H
    go_enter Try.func108, Try.ntmps108
    go_wp2_with (first | ((with_reducible refine gate_dst (N := 2) rfl ?_); refine bx (N := 2) (cs := #[.int .i64 a0_0, .int .i64 a0_1, .int .i64 a0_2, .int .i64 a0_3, .int .i64 a0_4, .int .i64 a0_5]) (t := 55) ?_; intro gb183 hg w6 hbox hb; have BK183 := Aside0.mk (hbox); have GW183 := Aside0.mk ((z108_0 : w.heap.size ≤ gb183)); have GE183 := Aside0.mk ((z108_0 : w.heap.size ≤ gb183)); replace HB := Aside0.mk (below_step h_ hb); clear hb hbox hg) | ((with_reducible refine gate_dst (N := 3) rfl ?_); refine bx (N := 3) (cs := #[.int .i64 a1_0, .int .i64 a1_1, .int .i64 a1_2, .int .i64 a1_3, .int .i64 a1_4, .int .i64 a1_5]) (t := 55) ?_; intro gb184 hg w7 hbox hb; have BK184 := Aside0.mk (hbox); have GW184 := Aside0.mk ((z108_0 : w.heap.size ≤ gb184)); have GE184 := Aside0.mk ((z108_0 : w.heap.size ≤ gb184)); replace HB := Aside0.mk (below_step h_ hb); have NB183_184 := Aside0.mk ((by rw [hg]; exact Nat.ne_of_lt (blk_lt (bo BK183)) : gb183 ≠ gb184)); have NB184_183 := Aside0.mk ((by rw [hg]; exact Nat.ne_of_gt (blk_lt (bo BK183)) : gb184 ≠ gb183)); replace BK183 := Aside0.mk (blk_below (bo BK183) hb); clear hb hbox hg; have hnb8 := NB183_184.out; have hnc8 := NB184_183.out; obtain ⟨hcz9_0, hcz9_1, hcz9_2, hcz9_3, hcz9_4, hcz9_5, hfz9_0, hfz9_1, hfz9_2, hfz9_3, hfz9_4, hfz9_5⟩ := d6 BK183.out; obtain ⟨hcz10_0, hcz10_1, hcz10_2, hcz10_3, hcz10_4, hcz10_5, hfz10_0, hfz10_1, hfz10_2, hfz10_3, hfz10_4, hfz10_5⟩ := d6 BK184.out))
    go_ret
    exact ⟨e_, h_⟩
   ·rw [if_neg c5] at H
    have c5b0 : (a0_2 == a1_2) = false := beq_eq_false_iff_ne.mpr c5
    have c5b1 : (a0_2 != a1_2) = true := bne_iff_ne.mpr c5
    obtain rfl := Option.some.inj H
    go_enter Try.func108, Try.ntmps108
    go_wp2_with (first | ((with_reducible refine gate_dst (N := 2) rfl ?_); refine bx (N := 2) (cs := #[.int .i64 a0_0, .int .i64 a0_1, .int .i64 a0_2, .int .i64 a0_3, .int .i64 a0_4, .int .i64 a0_5]) (t := 55) ?_; intro gb183 hg w11 hbox hb; have BK183 := Aside0.mk (hbox); have GW183 := Aside0.mk ((z108_0 : w.heap.size ≤ gb183)); have GE183 := Aside0.mk ((z108_0 : w.heap.size ≤ gb183)); replace HB := Aside0.mk (below_step h_ hb); clear hb hbox hg) | ((with_reducible refine gate_dst (N := 3) rfl ?_); refine bx (N := 3) (cs := #[.int .i64 a1_0, .int .i64 a1_1, .int .i64 a1_2, .int .i64 a1_3, .int .i64 a1_4, .int .i64 a1_5]) (t := 55) ?_; intro gb184 hg w12 hbox hb; have BK184 := Aside0.mk (hbox); have GW184 := Aside0.mk ((z108_0 : w.heap.size ≤ gb184)); have GE184 := Aside0.mk ((z108_0 : w.heap.size ≤ gb184)); replace HB := Aside0.mk (below_step h_ hb); have NB183_184 := Aside0.mk ((by rw [hg]; exact Nat.ne_of_lt (blk_lt (bo BK183)) : gb183 ≠ gb184)); have NB184_183 := Aside0.mk ((by rw [hg]; exact Nat.ne_of_gt (blk_lt (bo BK183)) : gb184 ≠ gb183)); replace BK183 := Aside0.mk (blk_below (bo BK183) hb); clear hb hbox hg; have hnb13 := NB183_184.out; have hnc13 := NB184_183.out; obtain ⟨hcz14_0, hcz14_1, hcz14_2, hcz14_3, hcz14_4, hcz14_5, hfz14_0, hfz14_1, hfz14_2, hfz14_3, hfz14_4, hfz14_5⟩ := d6 BK183.out; obtain ⟨hcz15_0, hcz15_1, hcz15_2, hcz15_3, hcz15_4, hcz15_5, hfz15_0, hfz15_1, hfz15_2, hfz15_3, hfz15_4, hfz15_5⟩ := d6 BK184.out))
    go_ret
    exact ⟨e_, h_⟩
  ·rw [if_neg c4] at H
   have c4b0 : (a0_1 == a1_1) = false := beq_eq_false_iff_ne.mpr c4
   have c4b1 : (a0_1 != a1_1) = true := bne_iff_ne.mpr c4
   obtain rfl := Option.some.inj H
   go_enter Try.func108, Try.ntmps108
   go_wp2_with (first | ((with_reducible refine gate_dst (N := 2) rfl ?_); refine bx (N := 2) (cs := #[.int .i64 a0_0, .int .i64 a0_1, .int .i64 a0_2, .int .i64 a0_3, .int .i64 a0_4, .int .i64 a0_5]) (t := 55) ?_; intro gb183 hg w16 hbox hb; have BK183 := Aside0.mk (hbox); have GW183 := Aside0.mk ((z108_0 : w.heap.size ≤ gb183)); have GE183 := Aside0.mk ((z108_0 : w.heap.size ≤ gb183)); replace HB := Aside0.mk (below_step h_ hb); clear hb hbox hg) | ((with_reducible refine gate_dst (N := 3) rfl ?_); refine bx (N := 3) (cs := #[.int .i64 a1_0, .int .i64 a1_1, .int .i64 a1_2, .int .i64 a1_3, .int .i64 a1_4, .int .i64 a1_5]) (t := 55) ?_; intro gb184 hg w17 hbox hb; have BK184 := Aside0.mk (hbox); have GW184 := Aside0.mk ((z108_0 : w.heap.size ≤ gb184)); have GE184 := Aside0.mk ((z108_0 : w.heap.size ≤ gb184)); replace HB := Aside0.mk (below_step h_ hb); have NB183_184 := Aside0.mk ((by rw [hg]; exact Nat.ne_of_lt (blk_lt (bo BK183)) : gb183 ≠ gb184)); have NB184_183 := Aside0.mk ((by rw [hg]; exact Nat.ne_of_gt (blk_lt (bo BK183)) : gb184 ≠ gb183)); replace BK183 := Aside0.mk (blk_below (bo BK183) hb); clear hb hbox hg; have hnb18 := NB183_184.out; have hnc18 := NB184_183.out; obtain ⟨hcz19_0, hcz19_1, hcz19_2, hcz19_3, hcz19_4, hcz19_5, hfz19_0, hfz19_1, hfz19_2, hfz19_3, hfz19_4, hfz19_5⟩ := d6 BK183.out; obtain ⟨hcz20_0, hcz20_1, hcz20_2, hcz20_3, hcz20_4, hcz20_5, hfz20_0, hfz20_1, hfz20_2, hfz20_3, hfz20_4, hfz20_5⟩ := d6 BK184.out))
   go_ret
   exact ⟨e_, h_⟩
 ·rw [if_neg c3] at H
  have c3b0 : (a0_0 == a1_0) = false := beq_eq_false_iff_ne.mpr c3
  have c3b1 : (a0_0 != a1_0) = true := bne_iff_ne.mpr c3
  obtain rfl := Option.some.inj H
  go_enter Try.func108, Try.ntmps108
  go_wp2_with (first | ((with_reducible refine gate_dst (N := 2) rfl ?_); refine bx (N := 2) (cs := #[.int .i64 a0_0, .int .i64 a0_1, .int .i64 a0_2, .int .i64 a0_3, .int .i64 a0_4, .int .i64 a0_5]) (t := 55) ?_; intro gb183 hg w21 hbox hb; have BK183 := Aside0.mk (hbox); have GW183 := Aside0.mk ((z108_0 : w.heap.size ≤ gb183)); have GE183 := Aside0.mk ((z108_0 : w.heap.size ≤ gb183)); replace HB := Aside0.mk (below_step h_ hb); clear hb hbox hg) | ((with_reducible refine gate_dst (N := 3) rfl ?_); refine bx (N := 3) (cs := #[.int .i64 a1_0, .int .i64 a1_1, .int .i64 a1_2, .int .i64 a1_3, .int .i64 a1_4, .int .i64 a1_5]) (t := 55) ?_; intro gb184 hg w22 hbox hb; have BK184 := Aside0.mk (hbox); have GW184 := Aside0.mk ((z108_0 : w.heap.size ≤ gb184)); have GE184 := Aside0.mk ((z108_0 : w.heap.size ≤ gb184)); replace HB := Aside0.mk (below_step h_ hb); have NB183_184 := Aside0.mk ((by rw [hg]; exact Nat.ne_of_lt (blk_lt (bo BK183)) : gb183 ≠ gb184)); have NB184_183 := Aside0.mk ((by rw [hg]; exact Nat.ne_of_gt (blk_lt (bo BK183)) : gb184 ≠ gb183)); replace BK183 := Aside0.mk (blk_below (bo BK183) hb); clear hb hbox hg; have hnb23 := NB183_184.out; have hnc23 := NB184_183.out; obtain ⟨hcz24_0, hcz24_1, hcz24_2, hcz24_3, hcz24_4, hcz24_5, hfz24_0, hfz24_1, hfz24_2, hfz24_3, hfz24_4, hfz24_5⟩ := d6 BK183.out; obtain ⟨hcz25_0, hcz25_1, hcz25_2, hcz25_3, hcz25_4, hcz25_5, hfz25_0, hfz25_1, hfz25_2, hfz25_3, hfz25_4, hfz25_5⟩ := d6 BK184.out))
  go_ret
  exact ⟨e_, h_⟩

end Go.Proofs.Ytabpgiebhgkfhaa.XFnExactTakeStated
