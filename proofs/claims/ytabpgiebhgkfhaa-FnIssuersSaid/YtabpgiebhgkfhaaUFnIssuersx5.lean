/- Written by this session's own program (wip/xprint, which runs over the kit's print): what the functions that the law reaches come to, each proved; and the law's row. Conditions: none. -/
import Derived.Test.YtabpgiebhgkfhaaUFnIssuersSq
import Derived.Test.YtabpgiebhgkfhaaUFnIssuersx0
import Derived.Test.YtabpgiebhgkfhaaUFnIssuersx1
import Derived.Test.YtabpgiebhgkfhaaUFnIssuersx2
import Derived.Test.YtabpgiebhgkfhaaUFnIssuersx4
namespace Go.Proofs.Ytabpgiebhgkfhaa.XFnIssuers
open Go.RowKit Go.Proofs.YtabpgiebhgkfhaaW.PrintWords Go.Proofs.YtabpgiebhgkfhaaW.PrintLast Go.Proofs.YtabpgiebhgkfhaaW.PrintMore Go.Proofs.YtabpgiebhgkfhaaSq
attribute [local go_sem] max2_int min2_int max_two min_two max_three min_three max_four min_four   -- for this text's walks alone
set_option linter.unusedVariables false
set_option linter.unusedSimpArgs false

attribute [local go_sem high] eqA76
/-! ### impl_IsBelieved: function 57 -/
def impl_IsBelieved.f (k : Nat) (l0 : List (S48)) (a1_0 : Int) (a1_1 : Int) (a1_2 : Int) (a1_3 : Int) (a1_4 : Int) (a1_5 : Int) (a1_6 : Int) : Option (Bool) := (impl_FindIssuer.f l0 a1_3).bind fun t169 => (if t169 < 0 then (some false) else (if 0 ≤ t169 then (if t169 < (l0.length : Int) then ((impl_StateFact.f k ((rd_T48 l0 t169).f0) ((rd_T48 l0 t169).f1) ((rd_T48 l0 t169).f2) a1_0 a1_1 a1_2 a1_3 a1_4 a1_5).bind fun bt171 => (if bt171.2.2.2.2.2.2.2 = true then (some ((bt171.1 == a1_0 && (bt171.2.1 == a1_1 && (bt171.2.2.1 == a1_2 && (bt171.2.2.2.1 == a1_3 && (bt171.2.2.2.2.1 == a1_4 && (bt171.2.2.2.2.2.1 == a1_5)))))) && (bt171.2.2.2.2.2.2.1 == a1_6))) else (some false))) else (none)) else (none)))
def impl_IsBelieved.T4 : Bool × List (List Nat × List Nat) := (true, [([], []), ([], []), ([0, 1], [0, 1]), ([2], [2]), ([], []), ([4], [4]), ([3, 5], [3, 5]), ([6], [6]), ([7], [7]), ([7], [7]), ([], []), ([10, 8, 6, 0, 1, 2, 3, 4, 5, 6, 7, 8, 10], [8, 10]), ([9, 11, 0, 1, 2, 3, 4, 5, 6, 7, 8, 9, 10, 11], [9])])
def impl_IsBelieved.B4 : List Nat := [0, 0, 3, 7, 0, 16, 63, 127, 255, 255, 0, 1535, 4095]
theorem impl_IsBelieved.tab4 : rtab .any (opsOf Try.f57 4) = impl_IsBelieved.T4 := by kernel_rfl
theorem impl_IsBelieved.bits4 : waitsOk impl_IsBelieved.T4.2 impl_IsBelieved.B4 = true := by kernel_rfl
theorem z57_0 {Q : Prop} (g : Q := by first | exact Nat.ne_of_lt (Nat.lt_of_lt_of_le (by have := World.block_lt_of_cell? _ _ hw170_2; first | rwa [add_block] at this | exact this) GW179.out) | (rw [add_block]; exact Nat.ne_of_lt (Nat.lt_of_lt_of_le (by have := World.block_lt_of_cell? _ _ hw170_2; first | rwa [add_block] at this | exact this) GW179.out)) | (show (Addr.add _ _).block ≠ _; rw [add_block]; exact Nat.ne_of_lt (Nat.lt_of_lt_of_le (by have := World.block_lt_of_cell? _ _ hw170_2; first | rwa [add_block] at this | exact this) GW179.out)) | (dsimp only; exact Nat.ne_of_lt (Nat.lt_of_lt_of_le (by have := World.block_lt_of_cell? _ _ hw170_2; first | rwa [add_block] at this | exact this) GW179.out))) : Q := g
theorem z57_1 {Q : Prop} (g : Q := by first | exact Nat.ne_of_lt (Nat.lt_of_lt_of_le (by have := World.block_lt_of_cell? _ _ hw170_1; first | rwa [add_block] at this | exact this) GW179.out) | (rw [add_block]; exact Nat.ne_of_lt (Nat.lt_of_lt_of_le (by have := World.block_lt_of_cell? _ _ hw170_1; first | rwa [add_block] at this | exact this) GW179.out)) | (show (Addr.add _ _).block ≠ _; rw [add_block]; exact Nat.ne_of_lt (Nat.lt_of_lt_of_le (by have := World.block_lt_of_cell? _ _ hw170_1; first | rwa [add_block] at this | exact this) GW179.out)) | (dsimp only; exact Nat.ne_of_lt (Nat.lt_of_lt_of_le (by have := World.block_lt_of_cell? _ _ hw170_1; first | rwa [add_block] at this | exact this) GW179.out))) : Q := g
theorem z57_2 {Q : Prop} (g : Q := by first | exact Nat.ne_of_lt (Nat.lt_of_lt_of_le (by have := World.block_lt_of_cell? _ _ hw170_0; first | rwa [add_block] at this | exact this) GW179.out) | (rw [add_block]; exact Nat.ne_of_lt (Nat.lt_of_lt_of_le (by have := World.block_lt_of_cell? _ _ hw170_0; first | rwa [add_block] at this | exact this) GW179.out)) | (show (Addr.add _ _).block ≠ _; rw [add_block]; exact Nat.ne_of_lt (Nat.lt_of_lt_of_le (by have := World.block_lt_of_cell? _ _ hw170_0; first | rwa [add_block] at this | exact this) GW179.out)) | (dsimp only; exact Nat.ne_of_lt (Nat.lt_of_lt_of_le (by have := World.block_lt_of_cell? _ _ hw170_0; first | rwa [add_block] at this | exact this) GW179.out))) : Q := g
theorem z57_3 {Q : Prop} (g : Q := by rw [hg]; exact (below_size sqh)) : Q := g
theorem z57_4 {Q : Prop} (g : Q := by simp only [putAll, Act.put, List.setIfInBounds_toArray, List.set_cons_zero, List.set_cons_succ]) : Q := g
set_option maxHeartbeats 8000000 in
set_option maxRecDepth 100000 in
theorem impl_IsBelieved.calls (k : Nat) (A0 : Option Addr) (c0 : Nat) (l0 : List (S48)) (a1_0 : Int) (a1_1 : Int) (a1_2 : Int) (a1_3 : Int) (a1_4 : Int) (a1_5 : Int) (a1_6 : Int) (r : Bool) (w : World) (hr0 : Kd.C k48 w A0 l0.length l0) (hc0 : l0.length ≤ c0) (h : impl_IsBelieved.f k l0 a1_0 a1_1 a1_2 a1_3 a1_4 a1_5 a1_6 = some r) :
  Calls Try.prog 57 #[.slice A0 l0.length c0, .agg #[.int .i64 a1_0, .int .i64 a1_1, .int .i64 a1_2, .int .i64 a1_3, .int .i64 a1_4, .int .i64 a1_5, .int .i64 a1_6]] w fun e w' => e = .returned (.bool r) ∧ Below w.heap.size w w' := by
 have hu76 := Try.underlying76
 have hu48 := Try.underlying48
 have hu55 := Try.underlying55
 have HR0 := As_.mk hr0
 have HC0 := As_.mk hc0
 clear hr0 hc0
 have HB := As_.mk (Below.refl w.heap.size w)
 have H : ((impl_FindIssuer.f l0 a1_3).bind fun t169 => (if t169 < 0 then (some false) else (if 0 ≤ t169 then (if t169 < (l0.length : Int) then ((impl_StateFact.f k ((rd_T48 l0 t169).f0) ((rd_T48 l0 t169).f1) ((rd_T48 l0 t169).f2) a1_0 a1_1 a1_2 a1_3 a1_4 a1_5).bind fun bt171 => (if bt171.2.2.2.2.2.2.2 = true then (some ((bt171.1 == a1_0 && (bt171.2.1 == a1_1 && (bt171.2.2.1 == a1_2 && (bt171.2.2.2.1 == a1_3 && (bt171.2.2.2.2.1 == a1_4 && (bt171.2.2.2.2.2.1 == a1_5)))))) && (bt171.2.2.2.2.2.2.1 == a1_6))) else (some false))) else (none)) else (none)))) = some r := h
 clear h
 obtain ⟨t169, A3, H⟩ := bA H
 by_cases c4 : t169 < 0
 ·rw [if_pos c4] at H
  have c4b0 : decide (t169 < 0) = true := decide_eq_true c4
  clear c4
  obtain rfl := Option.some.inj H
  go_enter Try.func57, Try.ntmps57
  go_wp2_with (first | ((with_reducible refine gate_dst (N := 3) rfl ?_); refine bx (N := 3) (cs := #[.int .i64 a1_0, .int .i64 a1_1, .int .i64 a1_2, .int .i64 a1_3, .int .i64 a1_4, .int .i64 a1_5, .int .i64 a1_6]) (t := 76) ?_; intro gb168 hg w5 hbox hb; have BK168 := As_.mk (hbox); have GW168 := As_.mk ((z57_3 : w.heap.size ≤ gb168)); have GE168 := As_.mk ((z57_3 : w.heap.size ≤ gb168)); replace HB := As_.mk (below_step sqh hb); clear hb hbox hg; obtain ⟨hcz6_0, hcz6_1, hcz6_2, hcz6_3, hcz6_4, hcz6_5, hcz6_6, hfz6_0, hfz6_1, hfz6_2, hfz6_3, hfz6_4, hfz6_5, hfz6_6⟩ := sd7 BK168.out) | ((with_reducible refine gate_callee (f := 43) rfl ?_); refine goesL_ (some 12) rfl rfl Try.func43 sqk rfl #[.slice A0 l0.length c0, .int .i64 a1_3] rfl sqm ?_; (with_reducible refine (impl_FindIssuer.calls _ _ l0 a1_3 t169 _ ?side1 ?side2 A3.out).mono ?_); (case side1 => exact sqn (Kd.C_below HR0.out HB.out)); (case side2 => exact HC0.out); rintro e w7 ⟨rfl, hb⟩; refine ⟨_, rfl, ?_⟩; replace BK168 := As_.mk (blk_below (bo BK168) hb); replace HB := As_.mk (below_step sqh hb); (try clear hb)))
  go_ret
  exact ⟨sqe, sqh⟩
 ·rw [if_neg c4] at H
  have c4b0 : decide (t169 < 0) = false := decide_eq_false c4
  clear c4
  by_cases c8 : 0 ≤ t169
  ·rw [if_pos c8] at H
   have c8b0 : decide (0 ≤ t169) = true := decide_eq_true c8
   clear c8
   by_cases c9 : t169 < (l0.length : Int)
   ·rw [if_pos c9] at H
    have c9b0 : decide (t169 < (l0.length : Int)) = true := decide_eq_true c9
    clear c9
    obtain ⟨⟨t171, t172, t173, t174, t175, t176, t177, t178⟩, A10, H⟩ := bA H
    dsimp only at H
    by_cases c11 : t178 = true
    ·subst c11
     replace H := iT H
     obtain rfl := Option.some.inj H
     go_enter Try.func57, Try.ntmps57
     try go_wp2_with (first | ((with_reducible refine gate_dst (N := 3) rfl ?_); refine bx (N := 3) (cs := #[.int .i64 a1_0, .int .i64 a1_1, .int .i64 a1_2, .int .i64 a1_3, .int .i64 a1_4, .int .i64 a1_5, .int .i64 a1_6]) (t := 76) ?_; intro gb168 hg w12 hbox hb; have BK168 := As_.mk (hbox); have GW168 := As_.mk ((z57_3 : w.heap.size ≤ gb168)); have GE168 := As_.mk ((z57_3 : w.heap.size ≤ gb168)); replace HB := As_.mk (below_step sqh hb); clear hb hbox hg; obtain ⟨hcz13_0, hcz13_1, hcz13_2, hcz13_3, hcz13_4, hcz13_5, hcz13_6, hfz13_0, hfz13_1, hfz13_2, hfz13_3, hfz13_4, hfz13_5, hfz13_6⟩ := sd7 BK168.out) | ((with_reducible refine gate_callee (f := 43) rfl ?_); refine goesL_ (some 12) rfl rfl Try.func43 sqk rfl #[.slice A0 l0.length c0, .int .i64 a1_3] rfl sqm ?_; (with_reducible refine (impl_FindIssuer.calls _ _ l0 a1_3 t169 _ ?side1 ?side2 A3.out).mono ?_); (case side1 => exact sqn (Kd.C_below HR0.out HB.out)); (case side2 => exact HC0.out); rintro e w14 ⟨rfl, hb⟩; refine ⟨_, rfl, ?_⟩; replace BK168 := As_.mk (blk_below (bo BK168) hb); replace HB := As_.mk (below_step sqh hb); (try clear hb)))
     replace BK168 := As_.mk (blk_drew BK168.out)
     replace HB := As_.mk (bD_ HB.out)
     have p170 : 0 ≤ (t169 : Int) := of_decide_eq_true sqs
     have q170 : t169 < (l0.length : Int) := of_decide_eq_true sqs
     obtain ⟨ad170, A170_1, c170_1, e170, hx170_0, hx170_1, hx170_2, hl170_1, hi170_1⟩ := at_T48 HR0.out t169 p170 q170
     have hw170_2 := hx170_2; have hw170_1 := hx170_1; have hw170_0 := hx170_0
     cases e170
     replace hx170_0 := cl HB hx170_0; replace hx170_1 := cl HB hx170_1; replace hx170_2 := cl HB hx170_2
     have HR170_1 := As_.mk hi170_1
     have HC170_1 := As_.mk hl170_1
     clear hi170_1 hl170_1
     replace p170 := eq_true p170
     replace q170 := eq_true q170
     refine start_ (n := 13) (S := fun w' => w'.cell? ⟨gb168, 0, none⟩ = some (.int .i64 a1_0) ∧ w'.cell? ⟨gb168, 1, none⟩ = some (.int .i64 a1_1) ∧ w'.cell? ⟨gb168, 2, none⟩ = some (.int .i64 a1_2) ∧ w'.cell? ⟨gb168, 3, none⟩ = some (.int .i64 a1_3) ∧ w'.cell? ⟨gb168, 4, none⟩ = some (.int .i64 a1_4) ∧ w'.cell? ⟨gb168, 5, none⟩ = some (.int .i64 a1_5) ∧ w'.cell? ⟨gb168, 6, none⟩ = some (.int .i64 a1_6) ∧ w'.cell? (ad170.add ((t169).toNat * 3)) = some (.int .i64 ((rd_T48 l0 t169).f0)) ∧ w'.cell? ⟨(ad170.add ((t169).toNat * 3)).block, (ad170.add ((t169).toNat * 3)).off + 1, none⟩ = some (.slice A170_1 ((rd_T48 l0 t169).f1).length c170_1) ∧ w'.cell? ⟨(ad170.add ((t169).toNat * 3)).block, (ad170.add ((t169).toNat * 3)).off + 2, none⟩ = some (.int .i64 ((rd_T48 l0 t169).f2))) (ds := []) #[false, false, false, false, false, false, false, false, false, false, false, false, false] sqk rfl rfl (sa7 BK168.out ⟨(cl HB hw170_0), (cl HB hw170_1), (cl HB hw170_2)⟩) (fun hHeld => ?_); refine with_tabW impl_IsBelieved.tab4 impl_IsBelieved.bits4 (fun HT_ HW_ => ?_)
     generalize w14.drew = w15 at BK168 HB HR170_1 hx170_0 hx170_1 hx170_2 hHeld ⊢
     refine pu 0 16 ?_; refine pu 1 17 ?_; refine pu 2 18 ?_; refine pu 4 20 ?_; refine ta 3 19 ?_; refine ta 5 21 ?_
     refine join_ (σ := Nat) 2 #[true, true, true, true, true, true, true, true, true, true, true, false, false] (fun s_ => [(22, .tuple #[.agg #[.int .i64 t171, .int .i64 t172, .int .i64 t173, .int .i64 t174, .int .i64 t175, .int .i64 t176, .int .i64 t177], .bool true]), (6, .pointer (some ⟨s_, 0, none⟩)), (15, .tuple #[.agg #[.int .i64 t171, .int .i64 t172, .int .i64 t173, .int .i64 t174, .int .i64 t175, .int .i64 t176, .int .i64 t177], .bool true]), (23, .agg #[.int .i64 t171, .int .i64 t172, .int .i64 t173, .int .i64 t174, .int .i64 t175, .int .i64 t176, .int .i64 t177]), (24, .bool true)]) (fun s_ w' => (w'.cell? ⟨gb168, 0, none⟩ = some (.int .i64 a1_0) ∧ w'.cell? ⟨gb168, 1, none⟩ = some (.int .i64 a1_1) ∧ w'.cell? ⟨gb168, 2, none⟩ = some (.int .i64 a1_2) ∧ w'.cell? ⟨gb168, 3, none⟩ = some (.int .i64 a1_3) ∧ w'.cell? ⟨gb168, 4, none⟩ = some (.int .i64 a1_4) ∧ w'.cell? ⟨gb168, 5, none⟩ = some (.int .i64 a1_5) ∧ w'.cell? ⟨gb168, 6, none⟩ = some (.int .i64 a1_6) ∧ w'.cell? (ad170.add ((t169).toNat * 3)) = some (.int .i64 ((rd_T48 l0 t169).f0)) ∧ w'.cell? ⟨(ad170.add ((t169).toNat * 3)).block, (ad170.add ((t169).toNat * 3)).off + 1, none⟩ = some (.slice A170_1 ((rd_T48 l0 t169).f1).length c170_1) ∧ w'.cell? ⟨(ad170.add ((t169).toNat * 3)).block, (ad170.add ((t169).toNat * 3)).off + 2, none⟩ = some (.int .i64 ((rd_T48 l0 t169).f2))) ∧ (w'.heap[gb168]? = some (.cells #[.int .i64 a1_0, .int .i64 a1_1, .int .i64 a1_2, .int .i64 a1_3, .int .i64 a1_4, .int .i64 a1_5, .int .i64 a1_6] 76 (0, 0))) ∧ (w'.heap[s_]? = some (.cells #[.int .i64 0, .int .i64 0, .int .i64 0, .int .i64 0, .int .i64 0, .int .i64 0, .int .i64 0] 76 (0, 0))) ∧ (w.heap.size ≤ s_) ∧ (w.heap.size ≤ s_) ∧ (gb168 ≠ s_) ∧ (s_ ≠ gb168) ∧ (Below w.heap.size w w')) ?_ ?_
     rotate_left
     ·intro hCont
      refine two_ (i := 6) (j := 10) (Ni := some 22) (Nj := some 6) #[true, true, true, true, true, true, true, false, false, false, false, false, false] #[true, true, true, true, true, true, false, false, false, false, true, false, false] rfl rfl rfl rfl (two_of HT_.out sqk) (by decide) (by decide) (fun K hK => ?_) (fun K hK => ?_)
      ·skip
       refine goes_ Try.func53 sqk rfl #[.agg #[.int .i64 ((rd_T48 l0 t169).f0), .slice A170_1 ((rd_T48 l0 t169).f1).length c170_1, .int .i64 ((rd_T48 l0 t169).f2)], .agg #[.int .i64 a1_0, .int .i64 a1_1, .int .i64 a1_2, .int .i64 a1_3, .int .i64 a1_4, .int .i64 a1_5]] (by rfl) rfl rfl sqm ?_
       with_reducible refine (impl_StateFact.calls k ((rd_T48 l0 t169).f0) _ _ ((rd_T48 l0 t169).f1) ((rd_T48 l0 t169).f2) a1_0 a1_1 a1_2 a1_3 a1_4 a1_5 t171 t172 t173 t174 t175 t176 t177 true _ ?side1 ?side2 A10.out).mono ?_
       (case side1 => repeat (first | exact (Kd.C_below HR170_1.out HB.out) | (with_reducible refine Kd.C_alloc ?_ _) | (with_reducible refine Kd.C_drewN ?_ _) | (with_reducible refine Kd.C_drew ?_)))
       (case side2 => exact HC170_1.out)
       rintro e w16 ⟨rfl, hb⟩
       refine ⟨_, rfl, ?_⟩
       replace BK168 := As_.mk (blk_below (bo BK168) hb)
       replace HB := As_.mk (below_step sqh hb)
       (try clear hb)
       (try clear hb2)
       (try clear hk)
       (try clear hi)
       refine hK.out _ _ (sa7 BK168.out ⟨(cl HB hw170_0), (cl HB hw170_1), (cl HB hw170_2)⟩) (fun hHeld => ?_)
       clear hK K; refine no 22 ?_; refine pu 7 15 ?_; refine pu 8 23 ?_; refine pu 9 24 ?_
       refine on 10 (some 6) (fun K hK => ?_)
       refine box_step ?hg (N := 6) ?hd (cs := #[.int .i64 0, .int .i64 0, .int .i64 0, .int .i64 0, .int .i64 0, .int .i64 0, .int .i64 0]) (t := 76) ?hr ?_; (case hd => rfl); (case hg => rfl); (case hr => first | (go_simp; done) | (go_simp; rfl))
       intro gb179 hg w17 hbox hb
       have BK179 := As_.mk (hbox)
       have GW179 := As_.mk ((z57_3 : w.heap.size ≤ gb179))
       have GE179 := As_.mk ((z57_3 : w.heap.size ≤ gb179))
       replace HB := As_.mk (below_step sqh hb)
       have NB168_179 := As_.mk ((by rw [hg]; exact Nat.ne_of_lt (blk_lt (bo BK168)) : gb168 ≠ gb179))
       have NB179_168 := As_.mk ((by rw [hg]; exact Nat.ne_of_gt (blk_lt (bo BK168)) : gb179 ≠ gb168))
       replace BK168 := As_.mk (blk_below (bo BK168) hb)
       clear hb hbox hg
       refine hK.out _ _ (sa7 BK168.out ⟨(cl HB hw170_0), (cl HB hw170_1), (cl HB hw170_2)⟩) (fun hHeld => ?_)
       clear hK K; refine no 6 ?_
       exact norm_ z57_4 (hCont (gb179) _ ⟨hHeld, (sqb BK168.out), (sqb BK179.out), GW179.out, GE179.out, NB168_179.out, NB179_168.out, sqh⟩)
      ·skip
       refine box_step ?hg (N := 6) ?hd (cs := #[.int .i64 0, .int .i64 0, .int .i64 0, .int .i64 0, .int .i64 0, .int .i64 0, .int .i64 0]) (t := 76) ?hr ?_; (case hd => rfl); (case hg => rfl); (case hr => first | (go_simp; done) | (go_simp; rfl))
       intro gb179 hg w16 hbox hb
       have BK179 := As_.mk (hbox)
       have GW179 := As_.mk ((z57_3 : w.heap.size ≤ gb179))
       have GE179 := As_.mk ((z57_3 : w.heap.size ≤ gb179))
       replace HB := As_.mk (below_step sqh hb)
       have NB168_179 := As_.mk ((by rw [hg]; exact Nat.ne_of_lt (blk_lt (bo BK168)) : gb168 ≠ gb179))
       have NB179_168 := As_.mk ((by rw [hg]; exact Nat.ne_of_gt (blk_lt (bo BK168)) : gb179 ≠ gb168))
       replace BK168 := As_.mk (blk_below (bo BK168) hb)
       clear hb hbox hg
       refine hK.out _ _ (sa7 BK168.out ⟨(cl HB hw170_0), (cl HB hw170_1), (cl HB hw170_2)⟩) (fun hHeld => ?_)
       clear hK K; refine no 6 ?_
       refine on 6 (some 22) (fun K hK => ?_)
       refine goes_ Try.func53 sqk rfl #[.agg #[.int .i64 ((rd_T48 l0 t169).f0), .slice A170_1 ((rd_T48 l0 t169).f1).length c170_1, .int .i64 ((rd_T48 l0 t169).f2)], .agg #[.int .i64 a1_0, .int .i64 a1_1, .int .i64 a1_2, .int .i64 a1_3, .int .i64 a1_4, .int .i64 a1_5]] (by rfl) rfl rfl sqm ?_
       with_reducible refine (impl_StateFact.calls k ((rd_T48 l0 t169).f0) _ _ ((rd_T48 l0 t169).f1) ((rd_T48 l0 t169).f2) a1_0 a1_1 a1_2 a1_3 a1_4 a1_5 t171 t172 t173 t174 t175 t176 t177 true _ ?side1 ?side2 A10.out).mono ?_
       (case side1 => repeat (first | exact (Kd.C_below HR170_1.out HB.out) | (with_reducible refine Kd.C_alloc ?_ _) | (with_reducible refine Kd.C_drewN ?_ _) | (with_reducible refine Kd.C_drew ?_)))
       (case side2 => exact HC170_1.out)
       rintro e w17 ⟨rfl, hb⟩
       refine ⟨_, rfl, ?_⟩
       replace BK168 := As_.mk (blk_below (bo BK168) hb)
       replace BK179 := As_.mk (blk_below (bo BK179) hb)
       replace HB := As_.mk (below_step sqh hb)
       (try clear hb)
       (try clear hb2)
       (try clear hk)
       (try clear hi)
       refine hK.out _ _ (sa7 BK168.out ⟨(cl HB hw170_0), (cl HB hw170_1), (cl HB hw170_2)⟩) (fun hHeld => ?_)
       clear hK K; refine no 22 ?_; refine pu 7 15 ?_; refine pu 8 23 ?_; refine pu 9 24 ?_
       exact norm_ z57_4 (hCont (gb179) _ ⟨hHeld, (sqb BK168.out), (sqb BK179.out), GW179.out, GE179.out, NB168_179.out, NB179_168.out, sqh⟩)
     rintro gb179 w18 ⟨hS_, h0_, h1_, h2_, h3_, h4_, h5_, h6_⟩
     have n0_ : As_ (w18.heap[gb168]? = some (.cells #[.int .i64 a1_0, .int .i64 a1_1, .int .i64 a1_2, .int .i64 a1_3, .int .i64 a1_4, .int .i64 a1_5, .int .i64 a1_6] 76 (0, 0))) := ⟨h0_⟩
     have n1_ : As_ (w18.heap[gb179]? = some (.cells #[.int .i64 0, .int .i64 0, .int .i64 0, .int .i64 0, .int .i64 0, .int .i64 0, .int .i64 0] 76 (0, 0))) := ⟨h1_⟩
     have n2_ : As_ (w.heap.size ≤ gb179) := ⟨h2_⟩
     have n3_ : As_ (w.heap.size ≤ gb179) := ⟨h3_⟩
     have n4_ : As_ (gb168 ≠ gb179) := ⟨h4_⟩
     have n5_ : As_ (gb179 ≠ gb168) := ⟨h5_⟩
     have n6_ : As_ (Below w.heap.size w w18) := ⟨h6_⟩
     clear BK168; clear HB; clear h0_ h1_ h2_ h3_ h4_ h5_ h6_
     have BK168 := n0_
     have BK179 := n1_
     have GW179 := n2_
     have GE179 := n3_
     have NB168_179 := n4_
     have NB179_168 := n5_
     have HB := n6_
     clear n0_ n1_ n2_ n3_ n4_ n5_ n6_
     have hHeld : w18.cell? ⟨gb168, 0, none⟩ = some (.int .i64 a1_0) ∧ w18.cell? ⟨gb168, 1, none⟩ = some (.int .i64 a1_1) ∧ w18.cell? ⟨gb168, 2, none⟩ = some (.int .i64 a1_2) ∧ w18.cell? ⟨gb168, 3, none⟩ = some (.int .i64 a1_3) ∧ w18.cell? ⟨gb168, 4, none⟩ = some (.int .i64 a1_4) ∧ w18.cell? ⟨gb168, 5, none⟩ = some (.int .i64 a1_5) ∧ w18.cell? ⟨gb168, 6, none⟩ = some (.int .i64 a1_6) ∧ w18.cell? (ad170.add ((t169).toNat * 3)) = some (.int .i64 ((rd_T48 l0 t169).f0)) ∧ w18.cell? ⟨(ad170.add ((t169).toNat * 3)).block, (ad170.add ((t169).toNat * 3)).off + 1, none⟩ = some (.slice A170_1 ((rd_T48 l0 t169).f1).length c170_1) ∧ w18.cell? ⟨(ad170.add ((t169).toNat * 3)).block, (ad170.add ((t169).toNat * 3)).off + 2, none⟩ = some (.int .i64 ((rd_T48 l0 t169).f2)) := hS_
     refine norm_ (a' := ?_) ?_ ?_
     rotate_left
     ·simp only [putAll, Act.put, List.setIfInBounds_toArray, List.set_cons_zero, List.set_cons_succ]
      rfl
     refine on 11 none (fun K hK => ?_)
     obtain ⟨hs19, hfs19⟩ := sd1 BK179.out
     have hns19_0 := NB168_179.out
     have hms19_0 := NB179_168.out
     have hs20 : w18.cell? ⟨gb179, 1, none⟩ = some (.int .i64 0) := (bC_ BK179.out 1).trans rfl
     have hfs20 := bF_ BK179.out 1
     have hns20_0 := NB168_179.out
     have hms20_0 := NB179_168.out
     have hs21 : w18.cell? ⟨gb179, 2, none⟩ = some (.int .i64 0) := (bC_ BK179.out 2).trans rfl
     have hfs21 := bF_ BK179.out 2
     have hns21_0 := NB168_179.out
     have hms21_0 := NB179_168.out
     have hs22 : w18.cell? ⟨gb179, 3, none⟩ = some (.int .i64 0) := (bC_ BK179.out 3).trans rfl
     have hfs22 := bF_ BK179.out 3
     have hns22_0 := NB168_179.out
     have hms22_0 := NB179_168.out
     have hs23 : w18.cell? ⟨gb179, 4, none⟩ = some (.int .i64 0) := (bC_ BK179.out 4).trans rfl
     have hfs23 := bF_ BK179.out 4
     have hns23_0 := NB168_179.out
     have hms23_0 := NB179_168.out
     have hs24 : w18.cell? ⟨gb179, 5, none⟩ = some (.int .i64 0) := (bC_ BK179.out 5).trans rfl
     have hfs24 := bF_ BK179.out 5
     have hns24_0 := NB168_179.out
     have hms24_0 := NB179_168.out
     have hs25 : w18.cell? ⟨gb179, 6, none⟩ = some (.int .i64 0) := (bC_ BK179.out 6).trans rfl
     have hfs25 := bF_ BK179.out 6
     have hns25_0 := NB168_179.out
     have hms25_0 := NB179_168.out
     refine skip_ (w1 := ?_) (by rfl) rfl ?_ ?_
     rotate_left
     ·go_simp
      rfl
     refine hK.out _ _ ⟨((cell_far (p := ⟨gb179, _, none⟩) NB168_179.out _).trans (((cell_far (p := ⟨gb179, _, none⟩) NB168_179.out _).trans (((cell_far (p := ⟨gb179, _, none⟩) NB168_179.out _).trans (((cell_far (p := ⟨gb179, _, none⟩) NB168_179.out _).trans (((cell_far (p := ⟨gb179, _, none⟩) NB168_179.out _).trans (((cell_far (p := ⟨gb179, _, none⟩) NB168_179.out _).trans (((cell_far (p := ⟨gb179, _, none⟩) NB168_179.out _).trans (hHeld.1)))))))))))))), ((cell_far (p := ⟨gb179, _, none⟩) NB168_179.out _).trans (((cell_far (p := ⟨gb179, _, none⟩) NB168_179.out _).trans (((cell_far (p := ⟨gb179, _, none⟩) NB168_179.out _).trans (((cell_far (p := ⟨gb179, _, none⟩) NB168_179.out _).trans (((cell_far (p := ⟨gb179, _, none⟩) NB168_179.out _).trans (((cell_far (p := ⟨gb179, _, none⟩) NB168_179.out _).trans (((cell_far (p := ⟨gb179, _, none⟩) NB168_179.out _).trans (hHeld.2.1)))))))))))))), ((cell_far (p := ⟨gb179, _, none⟩) NB168_179.out _).trans (((cell_far (p := ⟨gb179, _, none⟩) NB168_179.out _).trans (((cell_far (p := ⟨gb179, _, none⟩) NB168_179.out _).trans (((cell_far (p := ⟨gb179, _, none⟩) NB168_179.out _).trans (((cell_far (p := ⟨gb179, _, none⟩) NB168_179.out _).trans (((cell_far (p := ⟨gb179, _, none⟩) NB168_179.out _).trans (((cell_far (p := ⟨gb179, _, none⟩) NB168_179.out _).trans (hHeld.2.2.1)))))))))))))), ((cell_far (p := ⟨gb179, _, none⟩) NB168_179.out _).trans (((cell_far (p := ⟨gb179, _, none⟩) NB168_179.out _).trans (((cell_far (p := ⟨gb179, _, none⟩) NB168_179.out _).trans (((cell_far (p := ⟨gb179, _, none⟩) NB168_179.out _).trans (((cell_far (p := ⟨gb179, _, none⟩) NB168_179.out _).trans (((cell_far (p := ⟨gb179, _, none⟩) NB168_179.out _).trans (((cell_far (p := ⟨gb179, _, none⟩) NB168_179.out _).trans (hHeld.2.2.2.1)))))))))))))), ((cell_far (p := ⟨gb179, _, none⟩) NB168_179.out _).trans (((cell_far (p := ⟨gb179, _, none⟩) NB168_179.out _).trans (((cell_far (p := ⟨gb179, _, none⟩) NB168_179.out _).trans (((cell_far (p := ⟨gb179, _, none⟩) NB168_179.out _).trans (((cell_far (p := ⟨gb179, _, none⟩) NB168_179.out _).trans (((cell_far (p := ⟨gb179, _, none⟩) NB168_179.out _).trans (((cell_far (p := ⟨gb179, _, none⟩) NB168_179.out _).trans (hHeld.2.2.2.2.1)))))))))))))), ((cell_far (p := ⟨gb179, _, none⟩) NB168_179.out _).trans (((cell_far (p := ⟨gb179, _, none⟩) NB168_179.out _).trans (((cell_far (p := ⟨gb179, _, none⟩) NB168_179.out _).trans (((cell_far (p := ⟨gb179, _, none⟩) NB168_179.out _).trans (((cell_far (p := ⟨gb179, _, none⟩) NB168_179.out _).trans (((cell_far (p := ⟨gb179, _, none⟩) NB168_179.out _).trans (((cell_far (p := ⟨gb179, _, none⟩) NB168_179.out _).trans (hHeld.2.2.2.2.2.1)))))))))))))), ((cell_far (p := ⟨gb179, _, none⟩) NB168_179.out _).trans (((cell_far (p := ⟨gb179, _, none⟩) NB168_179.out _).trans (((cell_far (p := ⟨gb179, _, none⟩) NB168_179.out _).trans (((cell_far (p := ⟨gb179, _, none⟩) NB168_179.out _).trans (((cell_far (p := ⟨gb179, _, none⟩) NB168_179.out _).trans (((cell_far (p := ⟨gb179, _, none⟩) NB168_179.out _).trans (((cell_far (p := ⟨gb179, _, none⟩) NB168_179.out _).trans (hHeld.2.2.2.2.2.2.1)))))))))))))), ((cell_far (p := ⟨gb179, _, none⟩) z57_2 _).trans (((cell_far (p := ⟨gb179, _, none⟩) z57_2 _).trans (((cell_far (p := ⟨gb179, _, none⟩) z57_2 _).trans (((cell_far (p := ⟨gb179, _, none⟩) z57_2 _).trans (((cell_far (p := ⟨gb179, _, none⟩) z57_2 _).trans (((cell_far (p := ⟨gb179, _, none⟩) z57_2 _).trans (((cell_far (p := ⟨gb179, _, none⟩) z57_2 _).trans (hHeld.2.2.2.2.2.2.2.1)))))))))))))), ((cell_far (p := ⟨gb179, _, none⟩) z57_1 _).trans (((cell_far (p := ⟨gb179, _, none⟩) z57_1 _).trans (((cell_far (p := ⟨gb179, _, none⟩) z57_1 _).trans (((cell_far (p := ⟨gb179, _, none⟩) z57_1 _).trans (((cell_far (p := ⟨gb179, _, none⟩) z57_1 _).trans (((cell_far (p := ⟨gb179, _, none⟩) z57_1 _).trans (((cell_far (p := ⟨gb179, _, none⟩) z57_1 _).trans (hHeld.2.2.2.2.2.2.2.2.1)))))))))))))), ((cell_far (p := ⟨gb179, _, none⟩) z57_0 _).trans (((cell_far (p := ⟨gb179, _, none⟩) z57_0 _).trans (((cell_far (p := ⟨gb179, _, none⟩) z57_0 _).trans (((cell_far (p := ⟨gb179, _, none⟩) z57_0 _).trans (((cell_far (p := ⟨gb179, _, none⟩) z57_0 _).trans (((cell_far (p := ⟨gb179, _, none⟩) z57_0 _).trans (((cell_far (p := ⟨gb179, _, none⟩) z57_0 _).trans (hHeld.2.2.2.2.2.2.2.2.2))))))))))))))⟩ (fun hHeld => ?_)
     clear hK K; refine pu 12 7 ?_
     refine dn ?_
     have hnb26 := NB179_168.out
     have hnc26 := NB168_179.out
     obtain ⟨hcz27_0, hcz27_1, hcz27_2, hcz27_3, hcz27_4, hcz27_5, hcz27_6, hfz27_0, hfz27_1, hfz27_2, hfz27_3, hfz27_4, hfz27_5, hfz27_6⟩ := sd7 BK179.out
     obtain ⟨hcz28_0, hcz28_1, hcz28_2, hcz28_3, hcz28_4, hcz28_5, hcz28_6, hfz28_0, hfz28_1, hfz28_2, hfz28_3, hfz28_4, hfz28_5, hfz28_6⟩ := sd7 BK168.out
     try go_wp2
     go_ret
     exact ⟨sqe, sqh⟩
    ·replace c11 := Bool.eq_false_iff.mpr c11
     subst c11
     replace H := iF H
     obtain rfl := Option.some.inj H
     go_enter Try.func57, Try.ntmps57
     try go_wp2_with (first | ((with_reducible refine gate_dst (N := 3) rfl ?_); refine bx (N := 3) (cs := #[.int .i64 a1_0, .int .i64 a1_1, .int .i64 a1_2, .int .i64 a1_3, .int .i64 a1_4, .int .i64 a1_5, .int .i64 a1_6]) (t := 76) ?_; intro gb168 hg w29 hbox hb; have BK168 := As_.mk (hbox); have GW168 := As_.mk ((z57_3 : w.heap.size ≤ gb168)); have GE168 := As_.mk ((z57_3 : w.heap.size ≤ gb168)); replace HB := As_.mk (below_step sqh hb); clear hb hbox hg; obtain ⟨hcz30_0, hcz30_1, hcz30_2, hcz30_3, hcz30_4, hcz30_5, hcz30_6, hfz30_0, hfz30_1, hfz30_2, hfz30_3, hfz30_4, hfz30_5, hfz30_6⟩ := sd7 BK168.out) | ((with_reducible refine gate_callee (f := 43) rfl ?_); refine goesL_ (some 12) rfl rfl Try.func43 sqk rfl #[.slice A0 l0.length c0, .int .i64 a1_3] rfl sqm ?_; (with_reducible refine (impl_FindIssuer.calls _ _ l0 a1_3 t169 _ ?side1 ?side2 A3.out).mono ?_); (case side1 => exact sqn (Kd.C_below HR0.out HB.out)); (case side2 => exact HC0.out); rintro e w31 ⟨rfl, hb⟩; refine ⟨_, rfl, ?_⟩; replace BK168 := As_.mk (blk_below (bo BK168) hb); replace HB := As_.mk (below_step sqh hb); (try clear hb)))
     replace BK168 := As_.mk (blk_drew BK168.out)
     replace HB := As_.mk (bD_ HB.out)
     have p170 : 0 ≤ (t169 : Int) := of_decide_eq_true sqs
     have q170 : t169 < (l0.length : Int) := of_decide_eq_true sqs
     obtain ⟨ad170, A170_1, c170_1, e170, hx170_0, hx170_1, hx170_2, hl170_1, hi170_1⟩ := at_T48 HR0.out t169 p170 q170
     have hw170_2 := hx170_2; have hw170_1 := hx170_1; have hw170_0 := hx170_0
     cases e170
     replace hx170_0 := cl HB hx170_0; replace hx170_1 := cl HB hx170_1; replace hx170_2 := cl HB hx170_2
     have HR170_1 := As_.mk hi170_1
     have HC170_1 := As_.mk hl170_1
     clear hi170_1 hl170_1
     replace p170 := eq_true p170
     replace q170 := eq_true q170
     refine start_ (n := 13) (S := fun w' => w'.cell? ⟨gb168, 0, none⟩ = some (.int .i64 a1_0) ∧ w'.cell? ⟨gb168, 1, none⟩ = some (.int .i64 a1_1) ∧ w'.cell? ⟨gb168, 2, none⟩ = some (.int .i64 a1_2) ∧ w'.cell? ⟨gb168, 3, none⟩ = some (.int .i64 a1_3) ∧ w'.cell? ⟨gb168, 4, none⟩ = some (.int .i64 a1_4) ∧ w'.cell? ⟨gb168, 5, none⟩ = some (.int .i64 a1_5) ∧ w'.cell? ⟨gb168, 6, none⟩ = some (.int .i64 a1_6) ∧ w'.cell? (ad170.add ((t169).toNat * 3)) = some (.int .i64 ((rd_T48 l0 t169).f0)) ∧ w'.cell? ⟨(ad170.add ((t169).toNat * 3)).block, (ad170.add ((t169).toNat * 3)).off + 1, none⟩ = some (.slice A170_1 ((rd_T48 l0 t169).f1).length c170_1) ∧ w'.cell? ⟨(ad170.add ((t169).toNat * 3)).block, (ad170.add ((t169).toNat * 3)).off + 2, none⟩ = some (.int .i64 ((rd_T48 l0 t169).f2))) (ds := []) #[false, false, false, false, false, false, false, false, false, false, false, false, false] sqk rfl rfl (sa7 BK168.out ⟨(cl HB hw170_0), (cl HB hw170_1), (cl HB hw170_2)⟩) (fun hHeld => ?_); refine with_tabW impl_IsBelieved.tab4 impl_IsBelieved.bits4 (fun HT_ HW_ => ?_)
     generalize w31.drew = w32 at BK168 HB HR170_1 hx170_0 hx170_1 hx170_2 hHeld ⊢
     refine pu 0 16 ?_; refine pu 1 17 ?_; refine pu 2 18 ?_; refine pu 4 20 ?_; refine ta 3 19 ?_; refine ta 5 21 ?_
     refine join_ (σ := Nat) 2 #[true, true, true, true, true, true, true, true, true, true, true, false, false] (fun s_ => [(22, .tuple #[.agg #[.int .i64 t171, .int .i64 t172, .int .i64 t173, .int .i64 t174, .int .i64 t175, .int .i64 t176, .int .i64 t177], .bool false]), (6, .pointer (some ⟨s_, 0, none⟩)), (15, .tuple #[.agg #[.int .i64 t171, .int .i64 t172, .int .i64 t173, .int .i64 t174, .int .i64 t175, .int .i64 t176, .int .i64 t177], .bool false]), (23, .agg #[.int .i64 t171, .int .i64 t172, .int .i64 t173, .int .i64 t174, .int .i64 t175, .int .i64 t176, .int .i64 t177]), (24, .bool false)]) (fun s_ w' => (w'.cell? ⟨gb168, 0, none⟩ = some (.int .i64 a1_0) ∧ w'.cell? ⟨gb168, 1, none⟩ = some (.int .i64 a1_1) ∧ w'.cell? ⟨gb168, 2, none⟩ = some (.int .i64 a1_2) ∧ w'.cell? ⟨gb168, 3, none⟩ = some (.int .i64 a1_3) ∧ w'.cell? ⟨gb168, 4, none⟩ = some (.int .i64 a1_4) ∧ w'.cell? ⟨gb168, 5, none⟩ = some (.int .i64 a1_5) ∧ w'.cell? ⟨gb168, 6, none⟩ = some (.int .i64 a1_6) ∧ w'.cell? (ad170.add ((t169).toNat * 3)) = some (.int .i64 ((rd_T48 l0 t169).f0)) ∧ w'.cell? ⟨(ad170.add ((t169).toNat * 3)).block, (ad170.add ((t169).toNat * 3)).off + 1, none⟩ = some (.slice A170_1 ((rd_T48 l0 t169).f1).length c170_1) ∧ w'.cell? ⟨(ad170.add ((t169).toNat * 3)).block, (ad170.add ((t169).toNat * 3)).off + 2, none⟩ = some (.int .i64 ((rd_T48 l0 t169).f2))) ∧ (w'.heap[gb168]? = some (.cells #[.int .i64 a1_0, .int .i64 a1_1, .int .i64 a1_2, .int .i64 a1_3, .int .i64 a1_4, .int .i64 a1_5, .int .i64 a1_6] 76 (0, 0))) ∧ (w'.heap[s_]? = some (.cells #[.int .i64 0, .int .i64 0, .int .i64 0, .int .i64 0, .int .i64 0, .int .i64 0, .int .i64 0] 76 (0, 0))) ∧ (w.heap.size ≤ s_) ∧ (w.heap.size ≤ s_) ∧ (gb168 ≠ s_) ∧ (s_ ≠ gb168) ∧ (Below w.heap.size w w')) ?_ ?_
     rotate_left
     ·intro hCont
      refine two_ (i := 6) (j := 10) (Ni := some 22) (Nj := some 6) #[true, true, true, true, true, true, true, false, false, false, false, false, false] #[true, true, true, true, true, true, false, false, false, false, true, false, false] rfl rfl rfl rfl (two_of HT_.out sqk) (by decide) (by decide) (fun K hK => ?_) (fun K hK => ?_)
      ·skip
       refine goes_ Try.func53 sqk rfl #[.agg #[.int .i64 ((rd_T48 l0 t169).f0), .slice A170_1 ((rd_T48 l0 t169).f1).length c170_1, .int .i64 ((rd_T48 l0 t169).f2)], .agg #[.int .i64 a1_0, .int .i64 a1_1, .int .i64 a1_2, .int .i64 a1_3, .int .i64 a1_4, .int .i64 a1_5]] (by rfl) rfl rfl sqm ?_
       with_reducible refine (impl_StateFact.calls k ((rd_T48 l0 t169).f0) _ _ ((rd_T48 l0 t169).f1) ((rd_T48 l0 t169).f2) a1_0 a1_1 a1_2 a1_3 a1_4 a1_5 t171 t172 t173 t174 t175 t176 t177 false _ ?side1 ?side2 A10.out).mono ?_
       (case side1 => repeat (first | exact (Kd.C_below HR170_1.out HB.out) | (with_reducible refine Kd.C_alloc ?_ _) | (with_reducible refine Kd.C_drewN ?_ _) | (with_reducible refine Kd.C_drew ?_)))
       (case side2 => exact HC170_1.out)
       rintro e w33 ⟨rfl, hb⟩
       refine ⟨_, rfl, ?_⟩
       replace BK168 := As_.mk (blk_below (bo BK168) hb)
       replace HB := As_.mk (below_step sqh hb)
       (try clear hb)
       (try clear hb2)
       (try clear hk)
       (try clear hi)
       refine hK.out _ _ (sa7 BK168.out ⟨(cl HB hw170_0), (cl HB hw170_1), (cl HB hw170_2)⟩) (fun hHeld => ?_)
       clear hK K; refine no 22 ?_; refine pu 7 15 ?_; refine pu 8 23 ?_; refine pu 9 24 ?_
       refine on 10 (some 6) (fun K hK => ?_)
       refine box_step ?hg (N := 6) ?hd (cs := #[.int .i64 0, .int .i64 0, .int .i64 0, .int .i64 0, .int .i64 0, .int .i64 0, .int .i64 0]) (t := 76) ?hr ?_; (case hd => rfl); (case hg => rfl); (case hr => first | (go_simp; done) | (go_simp; rfl))
       intro gb179 hg w34 hbox hb
       have BK179 := As_.mk (hbox)
       have GW179 := As_.mk ((z57_3 : w.heap.size ≤ gb179))
       have GE179 := As_.mk ((z57_3 : w.heap.size ≤ gb179))
       replace HB := As_.mk (below_step sqh hb)
       have NB168_179 := As_.mk ((by rw [hg]; exact Nat.ne_of_lt (blk_lt (bo BK168)) : gb168 ≠ gb179))
       have NB179_168 := As_.mk ((by rw [hg]; exact Nat.ne_of_gt (blk_lt (bo BK168)) : gb179 ≠ gb168))
       replace BK168 := As_.mk (blk_below (bo BK168) hb)
       clear hb hbox hg
       refine hK.out _ _ (sa7 BK168.out ⟨(cl HB hw170_0), (cl HB hw170_1), (cl HB hw170_2)⟩) (fun hHeld => ?_)
       clear hK K; refine no 6 ?_
       exact norm_ z57_4 (hCont (gb179) _ ⟨hHeld, (sqb BK168.out), (sqb BK179.out), GW179.out, GE179.out, NB168_179.out, NB179_168.out, sqh⟩)
      ·skip
       refine box_step ?hg (N := 6) ?hd (cs := #[.int .i64 0, .int .i64 0, .int .i64 0, .int .i64 0, .int .i64 0, .int .i64 0, .int .i64 0]) (t := 76) ?hr ?_; (case hd => rfl); (case hg => rfl); (case hr => first | (go_simp; done) | (go_simp; rfl))
       intro gb179 hg w33 hbox hb
       have BK179 := As_.mk (hbox)
       have GW179 := As_.mk ((z57_3 : w.heap.size ≤ gb179))
       have GE179 := As_.mk ((z57_3 : w.heap.size ≤ gb179))
       replace HB := As_.mk (below_step sqh hb)
       have NB168_179 := As_.mk ((by rw [hg]; exact Nat.ne_of_lt (blk_lt (bo BK168)) : gb168 ≠ gb179))
       have NB179_168 := As_.mk ((by rw [hg]; exact Nat.ne_of_gt (blk_lt (bo BK168)) : gb179 ≠ gb168))
       replace BK168 := As_.mk (blk_below (bo BK168) hb)
       clear hb hbox hg
       refine hK.out _ _ (sa7 BK168.out ⟨(cl HB hw170_0), (cl HB hw170_1), (cl HB hw170_2)⟩) (fun hHeld => ?_)
       clear hK K; refine no 6 ?_
       refine on 6 (some 22) (fun K hK => ?_)
       refine goes_ Try.func53 sqk rfl #[.agg #[.int .i64 ((rd_T48 l0 t169).f0), .slice A170_1 ((rd_T48 l0 t169).f1).length c170_1, .int .i64 ((rd_T48 l0 t169).f2)], .agg #[.int .i64 a1_0, .int .i64 a1_1, .int .i64 a1_2, .int .i64 a1_3, .int .i64 a1_4, .int .i64 a1_5]] (by rfl) rfl rfl sqm ?_
       with_reducible refine (impl_StateFact.calls k ((rd_T48 l0 t169).f0) _ _ ((rd_T48 l0 t169).f1) ((rd_T48 l0 t169).f2) a1_0 a1_1 a1_2 a1_3 a1_4 a1_5 t171 t172 t173 t174 t175 t176 t177 false _ ?side1 ?side2 A10.out).mono ?_
       (case side1 => repeat (first | exact (Kd.C_below HR170_1.out HB.out) | (with_reducible refine Kd.C_alloc ?_ _) | (with_reducible refine Kd.C_drewN ?_ _) | (with_reducible refine Kd.C_drew ?_)))
       (case side2 => exact HC170_1.out)
       rintro e w34 ⟨rfl, hb⟩
       refine ⟨_, rfl, ?_⟩
       replace BK168 := As_.mk (blk_below (bo BK168) hb)
       replace BK179 := As_.mk (blk_below (bo BK179) hb)
       replace HB := As_.mk (below_step sqh hb)
       (try clear hb)
       (try clear hb2)
       (try clear hk)
       (try clear hi)
       refine hK.out _ _ (sa7 BK168.out ⟨(cl HB hw170_0), (cl HB hw170_1), (cl HB hw170_2)⟩) (fun hHeld => ?_)
       clear hK K; refine no 22 ?_; refine pu 7 15 ?_; refine pu 8 23 ?_; refine pu 9 24 ?_
       exact norm_ z57_4 (hCont (gb179) _ ⟨hHeld, (sqb BK168.out), (sqb BK179.out), GW179.out, GE179.out, NB168_179.out, NB179_168.out, sqh⟩)
     rintro gb179 w35 ⟨hS_, h0_, h1_, h2_, h3_, h4_, h5_, h6_⟩
     have n0_ : As_ (w35.heap[gb168]? = some (.cells #[.int .i64 a1_0, .int .i64 a1_1, .int .i64 a1_2, .int .i64 a1_3, .int .i64 a1_4, .int .i64 a1_5, .int .i64 a1_6] 76 (0, 0))) := ⟨h0_⟩
     have n1_ : As_ (w35.heap[gb179]? = some (.cells #[.int .i64 0, .int .i64 0, .int .i64 0, .int .i64 0, .int .i64 0, .int .i64 0, .int .i64 0] 76 (0, 0))) := ⟨h1_⟩
     have n2_ : As_ (w.heap.size ≤ gb179) := ⟨h2_⟩
     have n3_ : As_ (w.heap.size ≤ gb179) := ⟨h3_⟩
     have n4_ : As_ (gb168 ≠ gb179) := ⟨h4_⟩
     have n5_ : As_ (gb179 ≠ gb168) := ⟨h5_⟩
     have n6_ : As_ (Below w.heap.size w w35) := ⟨h6_⟩
     clear BK168; clear HB; clear h0_ h1_ h2_ h3_ h4_ h5_ h6_
     have BK168 := n0_
     have BK179 := n1_
     have GW179 := n2_
     have GE179 := n3_
     have NB168_179 := n4_
     have NB179_168 := n5_
     have HB := n6_
     clear n0_ n1_ n2_ n3_ n4_ n5_ n6_
     have hHeld : w35.cell? ⟨gb168, 0, none⟩ = some (.int .i64 a1_0) ∧ w35.cell? ⟨gb168, 1, none⟩ = some (.int .i64 a1_1) ∧ w35.cell? ⟨gb168, 2, none⟩ = some (.int .i64 a1_2) ∧ w35.cell? ⟨gb168, 3, none⟩ = some (.int .i64 a1_3) ∧ w35.cell? ⟨gb168, 4, none⟩ = some (.int .i64 a1_4) ∧ w35.cell? ⟨gb168, 5, none⟩ = some (.int .i64 a1_5) ∧ w35.cell? ⟨gb168, 6, none⟩ = some (.int .i64 a1_6) ∧ w35.cell? (ad170.add ((t169).toNat * 3)) = some (.int .i64 ((rd_T48 l0 t169).f0)) ∧ w35.cell? ⟨(ad170.add ((t169).toNat * 3)).block, (ad170.add ((t169).toNat * 3)).off + 1, none⟩ = some (.slice A170_1 ((rd_T48 l0 t169).f1).length c170_1) ∧ w35.cell? ⟨(ad170.add ((t169).toNat * 3)).block, (ad170.add ((t169).toNat * 3)).off + 2, none⟩ = some (.int .i64 ((rd_T48 l0 t169).f2)) := hS_
     refine norm_ (a' := ?_) ?_ ?_
     rotate_left
     ·simp only [putAll, Act.put, List.setIfInBounds_toArray, List.set_cons_zero, List.set_cons_succ]
      rfl
     refine on 11 none (fun K hK => ?_)
     obtain ⟨hs36, hfs36⟩ := sd1 BK179.out
     have hns36_0 := NB168_179.out
     have hms36_0 := NB179_168.out
     have hs37 : w35.cell? ⟨gb179, 1, none⟩ = some (.int .i64 0) := (bC_ BK179.out 1).trans rfl
     have hfs37 := bF_ BK179.out 1
     have hns37_0 := NB168_179.out
     have hms37_0 := NB179_168.out
     have hs38 : w35.cell? ⟨gb179, 2, none⟩ = some (.int .i64 0) := (bC_ BK179.out 2).trans rfl
     have hfs38 := bF_ BK179.out 2
     have hns38_0 := NB168_179.out
     have hms38_0 := NB179_168.out
     have hs39 : w35.cell? ⟨gb179, 3, none⟩ = some (.int .i64 0) := (bC_ BK179.out 3).trans rfl
     have hfs39 := bF_ BK179.out 3
     have hns39_0 := NB168_179.out
     have hms39_0 := NB179_168.out
     have hs40 : w35.cell? ⟨gb179, 4, none⟩ = some (.int .i64 0) := (bC_ BK179.out 4).trans rfl
     have hfs40 := bF_ BK179.out 4
     have hns40_0 := NB168_179.out
     have hms40_0 := NB179_168.out
     have hs41 : w35.cell? ⟨gb179, 5, none⟩ = some (.int .i64 0) := (bC_ BK179.out 5).trans rfl
     have hfs41 := bF_ BK179.out 5
     have hns41_0 := NB168_179.out
     have hms41_0 := NB179_168.out
     have hs42 : w35.cell? ⟨gb179, 6, none⟩ = some (.int .i64 0) := (bC_ BK179.out 6).trans rfl
     have hfs42 := bF_ BK179.out 6
     have hns42_0 := NB168_179.out
     have hms42_0 := NB179_168.out
     refine skip_ (w1 := ?_) (by rfl) rfl ?_ ?_
     rotate_left
     ·go_simp
      rfl
     refine hK.out _ _ ⟨((cell_far (p := ⟨gb179, _, none⟩) NB168_179.out _).trans (((cell_far (p := ⟨gb179, _, none⟩) NB168_179.out _).trans (((cell_far (p := ⟨gb179, _, none⟩) NB168_179.out _).trans (((cell_far (p := ⟨gb179, _, none⟩) NB168_179.out _).trans (((cell_far (p := ⟨gb179, _, none⟩) NB168_179.out _).trans (((cell_far (p := ⟨gb179, _, none⟩) NB168_179.out _).trans (((cell_far (p := ⟨gb179, _, none⟩) NB168_179.out _).trans (hHeld.1)))))))))))))), ((cell_far (p := ⟨gb179, _, none⟩) NB168_179.out _).trans (((cell_far (p := ⟨gb179, _, none⟩) NB168_179.out _).trans (((cell_far (p := ⟨gb179, _, none⟩) NB168_179.out _).trans (((cell_far (p := ⟨gb179, _, none⟩) NB168_179.out _).trans (((cell_far (p := ⟨gb179, _, none⟩) NB168_179.out _).trans (((cell_far (p := ⟨gb179, _, none⟩) NB168_179.out _).trans (((cell_far (p := ⟨gb179, _, none⟩) NB168_179.out _).trans (hHeld.2.1)))))))))))))), ((cell_far (p := ⟨gb179, _, none⟩) NB168_179.out _).trans (((cell_far (p := ⟨gb179, _, none⟩) NB168_179.out _).trans (((cell_far (p := ⟨gb179, _, none⟩) NB168_179.out _).trans (((cell_far (p := ⟨gb179, _, none⟩) NB168_179.out _).trans (((cell_far (p := ⟨gb179, _, none⟩) NB168_179.out _).trans (((cell_far (p := ⟨gb179, _, none⟩) NB168_179.out _).trans (((cell_far (p := ⟨gb179, _, none⟩) NB168_179.out _).trans (hHeld.2.2.1)))))))))))))), ((cell_far (p := ⟨gb179, _, none⟩) NB168_179.out _).trans (((cell_far (p := ⟨gb179, _, none⟩) NB168_179.out _).trans (((cell_far (p := ⟨gb179, _, none⟩) NB168_179.out _).trans (((cell_far (p := ⟨gb179, _, none⟩) NB168_179.out _).trans (((cell_far (p := ⟨gb179, _, none⟩) NB168_179.out _).trans (((cell_far (p := ⟨gb179, _, none⟩) NB168_179.out _).trans (((cell_far (p := ⟨gb179, _, none⟩) NB168_179.out _).trans (hHeld.2.2.2.1)))))))))))))), ((cell_far (p := ⟨gb179, _, none⟩) NB168_179.out _).trans (((cell_far (p := ⟨gb179, _, none⟩) NB168_179.out _).trans (((cell_far (p := ⟨gb179, _, none⟩) NB168_179.out _).trans (((cell_far (p := ⟨gb179, _, none⟩) NB168_179.out _).trans (((cell_far (p := ⟨gb179, _, none⟩) NB168_179.out _).trans (((cell_far (p := ⟨gb179, _, none⟩) NB168_179.out _).trans (((cell_far (p := ⟨gb179, _, none⟩) NB168_179.out _).trans (hHeld.2.2.2.2.1)))))))))))))), ((cell_far (p := ⟨gb179, _, none⟩) NB168_179.out _).trans (((cell_far (p := ⟨gb179, _, none⟩) NB168_179.out _).trans (((cell_far (p := ⟨gb179, _, none⟩) NB168_179.out _).trans (((cell_far (p := ⟨gb179, _, none⟩) NB168_179.out _).trans (((cell_far (p := ⟨gb179, _, none⟩) NB168_179.out _).trans (((cell_far (p := ⟨gb179, _, none⟩) NB168_179.out _).trans (((cell_far (p := ⟨gb179, _, none⟩) NB168_179.out _).trans (hHeld.2.2.2.2.2.1)))))))))))))), ((cell_far (p := ⟨gb179, _, none⟩) NB168_179.out _).trans (((cell_far (p := ⟨gb179, _, none⟩) NB168_179.out _).trans (((cell_far (p := ⟨gb179, _, none⟩) NB168_179.out _).trans (((cell_far (p := ⟨gb179, _, none⟩) NB168_179.out _).trans (((cell_far (p := ⟨gb179, _, none⟩) NB168_179.out _).trans (((cell_far (p := ⟨gb179, _, none⟩) NB168_179.out _).trans (((cell_far (p := ⟨gb179, _, none⟩) NB168_179.out _).trans (hHeld.2.2.2.2.2.2.1)))))))))))))), ((cell_far (p := ⟨gb179, _, none⟩) z57_2 _).trans (((cell_far (p := ⟨gb179, _, none⟩) z57_2 _).trans (((cell_far (p := ⟨gb179, _, none⟩) z57_2 _).trans (((cell_far (p := ⟨gb179, _, none⟩) z57_2 _).trans (((cell_far (p := ⟨gb179, _, none⟩) z57_2 _).trans (((cell_far (p := ⟨gb179, _, none⟩) z57_2 _).trans (((cell_far (p := ⟨gb179, _, none⟩) z57_2 _).trans (hHeld.2.2.2.2.2.2.2.1)))))))))))))), ((cell_far (p := ⟨gb179, _, none⟩) z57_1 _).trans (((cell_far (p := ⟨gb179, _, none⟩) z57_1 _).trans (((cell_far (p := ⟨gb179, _, none⟩) z57_1 _).trans (((cell_far (p := ⟨gb179, _, none⟩) z57_1 _).trans (((cell_far (p := ⟨gb179, _, none⟩) z57_1 _).trans (((cell_far (p := ⟨gb179, _, none⟩) z57_1 _).trans (((cell_far (p := ⟨gb179, _, none⟩) z57_1 _).trans (hHeld.2.2.2.2.2.2.2.2.1)))))))))))))), ((cell_far (p := ⟨gb179, _, none⟩) z57_0 _).trans (((cell_far (p := ⟨gb179, _, none⟩) z57_0 _).trans (((cell_far (p := ⟨gb179, _, none⟩) z57_0 _).trans (((cell_far (p := ⟨gb179, _, none⟩) z57_0 _).trans (((cell_far (p := ⟨gb179, _, none⟩) z57_0 _).trans (((cell_far (p := ⟨gb179, _, none⟩) z57_0 _).trans (((cell_far (p := ⟨gb179, _, none⟩) z57_0 _).trans (hHeld.2.2.2.2.2.2.2.2.2))))))))))))))⟩ (fun hHeld => ?_)
     clear hK K; refine pu 12 7 ?_
     refine dn ?_
     try go_wp2
     go_ret
     exact ⟨sqe, sqh⟩
   ·rw [if_neg c9] at H
    exact absurd H (by simp)
  ·rw [if_neg c8] at H
   exact absurd H (by simp)

/-! ### impl_copyFacts: function 67 -/
def impl_copyFacts.f (l0 : List (S55)) : Option ((List (S55))) := (some (([] : List (S55)) : List (S55))).bind fun y180 => (if y180.length + l0.length < 2932031007402 then (some (y180 ++ l0)) else (none))
set_option maxHeartbeats 8000000 in
set_option maxRecDepth 100000 in
theorem impl_copyFacts.calls (A0 : Option Addr) (c0 : Nat) (l0 : List (S55)) (r : List (S55)) (w : World) (hr0 : Kd.C k55 w A0 l0.length l0) (hc0 : l0.length ≤ c0) (h : impl_copyFacts.f l0 = some r) :
  Calls Try.prog 67 #[.slice A0 l0.length c0] w fun e w' => ∃ v0_ : Value, e = .returned (v0_) ∧ Kd.R k55 55 w' w.heap.size (fun _ => True) v0_ r ∧ Below w.heap.size w w' := by
 have HR0 := As_.mk hr0
 have HC0 := As_.mk hc0
 clear hr0 hc0
 have HB := As_.mk (Below.refl w.heap.size w)
 have H : ((some (([] : List (S55)) : List (S55))).bind fun y180 => (if y180.length + l0.length < 2932031007402 then (some (y180 ++ l0)) else (none))) = some r := h
 clear h
 obtain ⟨y180, hy180⟩ : ∃ y_ : List (S55), y_ = (([] : List (S55))) := ⟨_, rfl⟩
 replace H : (if y180.length + l0.length < 2932031007402 then (some (y180 ++ l0)) else (none)) = some r := by first | (rw [hy180]; with_reducible exact H) | (have H2_ := (Option.bind_some _ _).symm.trans H; rw [hy180]; with_reducible exact H2_) | (have H2_ := (Option.bind_some _ _).symm.trans H; with_reducible exact H2_) | with_reducible exact H | (rw [hy180]; exact H) | exact H
 have Ny180 := As_.mk hy180
 clear hy180
 by_cases c2 : y180.length + l0.length < 2932031007402
 ·rw [if_pos c2] at H
  have LMc2 := As_.mk c2
  clear c2
  obtain ⟨y183, hy183⟩ : ∃ y_ : List (S55), y_ = (y180 ++ l0) := ⟨_, rfl⟩
  replace H : (some y183) = some r := by first | (rw [hy183]; with_reducible exact H) | (have H2_ := (Option.bind_some _ _).symm.trans H; rw [hy183]; with_reducible exact H2_) | (have H2_ := (Option.bind_some _ _).symm.trans H; with_reducible exact H2_) | with_reducible exact H | (rw [hy183]; exact H) | exact H
  have Ny183 := As_.mk hy183
  clear hy183
  obtain rfl := Option.some.inj H
  go_enter Try.func67, Try.ntmps67
  go_wp2_with (first | ((with_reducible refine gate_dst (N := 3) rfl ?_); refine Kd.R_lit k55 _ 55 ?hg (N := 3) ?hd (xs := ([] : List (S55))) (inner := []) (ok := fun _ => True) (okp := fun _ => True) ?hr ?hp (fun _ hk => hk) trivial (Below.refl _ _) (Nat.le_refl _) (by simp) ?_; (case hd => rfl); (case hg => rfl); (case hr => first | (go_simp; done) | (go_simp; rfl)); (case hp => exact (Reps.none _ _)); intro v181 w3 ho4 hb hg_ hnew_; clear hg_ hnew_; (first | rw [← Ny180.out] at ho4 | (simp only [Int.reduceToNat] at ho4; rw [← Ny180.out] at ho4)); have HO182 := As_.mk (Kd.R_lower ho4 (below_size sqh)); replace HB := As_.mk (below_step sqh hb); clear hb ho4) | ((with_reducible refine gate_builtin (b := .append) (xs := #[.tmp 3, .tmp 4]) rfl ?_); at_builtin; refine Kd.R_append_rows k55 (w0 := w) w.heap.size rfl (.tmp 3) (.tmp 4) 28 55 (.agg #[(.int .i64 0), (.int .i64 0), (.int .i64 0), (.int .i64 0), (.int .i64 0), (.int .i64 0)]) 48 rfl Try.underlying28 info55 rfl (by decide) (by omega) v181 y180 l0 _ _ _ (fun _ => True) (fun _ => False) rfl rfl ?aO ?aR (fun _ _ h => h) (fun _ h => h.elim) ?aF ?aB ?aS ?aL ?_; (case aR => repeat (first | exact (Kd.C_below HR0.out HB.out) | (with_reducible refine Kd.C_alloc ?_ _) | (with_reducible refine Kd.C_drewN ?_ _) | (with_reducible refine Kd.C_drew ?_))); (case aB => exact sqh); (case aF => exact (fun _ _ => trivial)); (case aO => exact (sqq HO182.out)); (case aS => exact (below_size sqh)); (case aL => have := LMc2.out; omega); intro v184 w5 ho hb hg hat; rw [← Ny183.out] at ho; replace HB := As_.mk (hb); have HO185 := As_.mk (ho); clear HO182; clear ho hb hg hat))
  go_ret
  exact ⟨_, sqe, by (with_reducible repeat (first | apply Kd.R_alloc | apply Kd.R_drewN | apply Kd.R_drew)); exact HO185.out, sqh⟩
 ·rw [if_neg c2] at H
  exact absurd H (by simp)

end Go.Proofs.Ytabpgiebhgkfhaa.XFnIssuers
