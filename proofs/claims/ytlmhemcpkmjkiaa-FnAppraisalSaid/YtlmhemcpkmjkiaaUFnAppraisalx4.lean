/- Written by this session's own program (wip/xprint, which runs over the kit's print): what the functions that the law reaches come to, each proved; and the law's row. Conditions: none. -/
import Derived.Test.YtlmhemcpkmjkiaaUFnAppraisalSq
import Derived.Test.YtlmhemcpkmjkiaaUFnAppraisalx0
namespace Go.Proofs.Ytlmhemcpkmjkiaa.XFnAppraisal
open Go.RowKit Go.Proofs.YtlmhemcpkmjkiaaW.PrintWords Go.Proofs.YtlmhemcpkmjkiaaW.PrintLast Go.Proofs.YtlmhemcpkmjkiaaW.PrintMore Go.Proofs.YtlmhemcpkmjkiaaSq
attribute [local go_sem] max2_int min2_int max_two min_two max_three min_three max_four min_four   -- for this text's walks alone
set_option linter.unusedVariables false
set_option linter.unusedSimpArgs false

/-! ### impl_copyAllowed: function 94 -/
def impl_copyAllowed.f (a0_0 : Int) (l0_1 : List Int) (l0_2 : List Int) (l0_3 : List Int) : Option (Int × List Int × List Int × List Int) := (some (([] : List Int) : List Int)).bind fun y128 => (if y128.length + l0_1.length < 17592186044416 then ((some (([] : List Int) : List Int)).bind fun y134 => (if y134.length + l0_2.length < 17592186044416 then ((some (([] : List Int) : List Int)).bind fun y140 => (if y140.length + l0_3.length < 17592186044416 then (some (a0_0, (y128 ++ l0_1), (y134 ++ l0_2), (y140 ++ l0_3))) else (none))) else (none))) else (none))
def impl_copyAllowed.T1 : Bool × List (List Nat × List Nat) := (true, [([], []), ([0], [0]), ([], []), ([], []), ([3], [3]), ([2, 4], [2, 4]), ([], []), ([], []), ([7], [7]), ([6, 8, 5], [6, 8]), ([], []), ([], []), ([11], [11]), ([10, 12, 9], [10, 12]), ([1, 5, 9, 13], [1, 5, 9, 13]), ([14, 13, 0, 1, 2, 3, 4, 5, 6, 7, 8, 9, 10, 11, 12, 13, 14], [14])])
def impl_copyAllowed.B1 : List Nat := [0, 1, 0, 0, 8, 28, 0, 0, 128, 508, 0, 0, 2048, 8188, 16383, 32767]
theorem impl_copyAllowed.tab1 : rtab .any (opsOf Try.f94 1) = impl_copyAllowed.T1 := by kernel_rfl
theorem impl_copyAllowed.bits1 : waitsOk impl_copyAllowed.T1.2 impl_copyAllowed.B1 = true := by kernel_rfl
theorem z94_0 {Q : Prop} (g : Q := by first | (simp only [putAll, Act.put, List.setIfInBounds_toArray, List.set_cons_zero, List.set_cons_succ]; done) | (simp only [putAll, Act.put, List.setIfInBounds_toArray, List.set_cons_zero, List.set_cons_succ]; rfl)) : Q := g
theorem z94_1 {Q : Prop} (g : Q := by (with_reducible repeat (first | apply Kd.R_alloc | apply Kd.R_drewN | apply Kd.R_drew)); exact Kd.R_mono HO142.out (fun _ hk => hk.2)) : Q := g
theorem z94_2 {Q : Prop} (g : Q := by (with_reducible repeat (first | apply Kd.R_alloc | apply Kd.R_drewN | apply Kd.R_drew)); exact Kd.R_mono HO136.out (fun _ hk => hk.2)) : Q := g
theorem z94_3 {Q : Prop} (g : Q := by (with_reducible repeat (first | apply Kd.R_alloc | apply Kd.R_drewN | apply Kd.R_drew)); exact Kd.R_mono HO130.out (fun _ hk => hk.2)) : Q := g
theorem z94_4 {Q : Prop} (g : Q := by (with_reducible repeat (first | apply Kd.R_alloc | apply Kd.R_drewN | apply Kd.R_drew)); exact Kd.R_mono HO142.out (fun _ hk => ⟨hk.1.2, hk.2⟩)) : Q := g
theorem z94_5 {Q : Prop} (g : Q := by (with_reducible repeat (first | apply Kd.R_alloc | apply Kd.R_drewN | apply Kd.R_drew)); exact Kd.R_mono HO142.out (fun _ hk => ⟨hk.2, hk.1⟩)) : Q := g
theorem z94_6 {Q : Prop} (g : Q := by (with_reducible repeat (first | apply Kd.R_alloc | apply Kd.R_drewN | apply Kd.R_drew)); exact Kd.R_mono HO136.out (fun _ hk => ⟨hk.2, hk.1⟩)) : Q := g
theorem z94_7 {Q : Prop} (g : Q := by (with_reducible repeat (first | apply Kd.R_alloc | apply Kd.R_drewN | apply Kd.R_drew)); exact Kd.R_mono HO133.out (fun _ hk => ⟨hk.2, hk.1⟩)) : Q := g
theorem z94_8 {Q : Prop} (g : Q := by (with_reducible repeat (first | apply Kd.R_alloc | apply Kd.R_drewN | apply Kd.R_drew)); exact Kd.R_mono HO133.out (fun _ hk => hk.2)) : Q := g
set_option maxHeartbeats 8000000 in
set_option maxRecDepth 100000 in
theorem impl_copyAllowed.calls (a0_0 : Int) (A0_1 : Option Addr) (c0_1 : Nat) (l0_1 : List Int) (A0_2 : Option Addr) (c0_2 : Nat) (l0_2 : List Int) (A0_3 : Option Addr) (c0_3 : Nat) (l0_3 : List Int) (r1 : Int) (r2 : List Int) (r3 : List Int) (r4 : List Int) (w : World) (hr0_1 : Kd.C (Kd.int .i64) w A0_1 l0_1.length l0_1) (hc0_1 : l0_1.length ≤ c0_1) (hr0_2 : Kd.C (Kd.int .i64) w A0_2 l0_2.length l0_2) (hc0_2 : l0_2.length ≤ c0_2) (hr0_3 : Kd.C (Kd.int .i64) w A0_3 l0_3.length l0_3) (hc0_3 : l0_3.length ≤ c0_3) (h : impl_copyAllowed.f a0_0 l0_1 l0_2 l0_3 = some (r1, r2, r3, r4)) :
  Calls Try.prog 94 #[.agg #[.int .i64 a0_0, .slice A0_1 l0_1.length c0_1, .slice A0_2 l0_2.length c0_2, .slice A0_3 l0_3.length c0_3]] w fun e w' => ∃ v1_ v2_ v3_ : Value, e = .returned (.agg #[.int .i64 r1, v1_, v2_, v3_]) ∧ Kd.R (Kd.int .i64) 3 w' w.heap.size (fun k_ => some k_ ≠ (v2_ : Value).ownBlock ∧ some k_ ≠ (v3_ : Value).ownBlock) v1_ r2 ∧ Kd.R (Kd.int .i64) 3 w' w.heap.size (fun k_ => some k_ ≠ (v1_ : Value).ownBlock ∧ some k_ ≠ (v3_ : Value).ownBlock) v2_ r3 ∧ Kd.R (Kd.int .i64) 3 w' w.heap.size (fun k_ => some k_ ≠ (v1_ : Value).ownBlock ∧ some k_ ≠ (v2_ : Value).ownBlock) v3_ r4 ∧ Below w.heap.size w w' := by
 have hu33 := Try.underlying33
 have HR0_1 := Aside0.mk hr0_1
 have HC0_1 := Aside0.mk hc0_1
 clear hr0_1 hc0_1
 have HR0_2 := Aside0.mk hr0_2
 have HC0_2 := Aside0.mk hc0_2
 clear hr0_2 hc0_2
 have HR0_3 := Aside0.mk hr0_3
 have HC0_3 := Aside0.mk hc0_3
 clear hr0_3 hc0_3
 have HB := Aside0.mk (Below.refl w.heap.size w)
 have H : ((some (([] : List Int) : List Int)).bind fun y128 => (if y128.length + l0_1.length < 17592186044416 then ((some (([] : List Int) : List Int)).bind fun y134 => (if y134.length + l0_2.length < 17592186044416 then ((some (([] : List Int) : List Int)).bind fun y140 => (if y140.length + l0_3.length < 17592186044416 then (some (a0_0, (y128 ++ l0_1), (y134 ++ l0_2), (y140 ++ l0_3))) else (none))) else (none))) else (none))) = some (r1, r2, r3, r4) := h
 clear h
 obtain ⟨y128, hy128⟩ : ∃ y_ : List Int, y_ = (([] : List Int)) := ⟨_, rfl⟩
 replace H : (if y128.length + l0_1.length < 17592186044416 then ((some (([] : List Int) : List Int)).bind fun y134 => (if y134.length + l0_2.length < 17592186044416 then ((some (([] : List Int) : List Int)).bind fun y140 => (if y140.length + l0_3.length < 17592186044416 then (some (a0_0, (y128 ++ l0_1), (y134 ++ l0_2), (y140 ++ l0_3))) else (none))) else (none))) else (none)) = some (r1, r2, r3, r4) := by first | (rw [hy128]; with_reducible exact H) | (have H2_ := (Option.bind_some _ _).symm.trans H; rw [hy128]; with_reducible exact H2_) | (have H2_ := (Option.bind_some _ _).symm.trans H; with_reducible exact H2_) | with_reducible exact H | (rw [hy128]; exact H) | exact H
 have Ny128 := Aside0.mk hy128
 clear hy128
 by_cases c2 : y128.length + l0_1.length < 17592186044416
 ·rw [if_pos c2] at H
  have LMc2 := Aside0.mk c2
  clear c2
  obtain ⟨y131, hy131⟩ : ∃ y_ : List Int, y_ = (y128 ++ l0_1) := ⟨_, rfl⟩
  replace H : ((some (([] : List Int) : List Int)).bind fun y134 => (if y134.length + l0_2.length < 17592186044416 then ((some (([] : List Int) : List Int)).bind fun y140 => (if y140.length + l0_3.length < 17592186044416 then (some (a0_0, y131, (y134 ++ l0_2), (y140 ++ l0_3))) else (none))) else (none))) = some (r1, r2, r3, r4) := by first | (rw [hy131]; with_reducible exact H) | (have H2_ := (Option.bind_some _ _).symm.trans H; rw [hy131]; with_reducible exact H2_) | (have H2_ := (Option.bind_some _ _).symm.trans H; with_reducible exact H2_) | with_reducible exact H | (rw [hy131]; exact H) | exact H
  have Ny131 := Aside0.mk hy131
  clear hy131
  obtain ⟨y134, hy134⟩ : ∃ y_ : List Int, y_ = (([] : List Int)) := ⟨_, rfl⟩
  replace H : (if y134.length + l0_2.length < 17592186044416 then ((some (([] : List Int) : List Int)).bind fun y140 => (if y140.length + l0_3.length < 17592186044416 then (some (a0_0, y131, (y134 ++ l0_2), (y140 ++ l0_3))) else (none))) else (none)) = some (r1, r2, r3, r4) := by first | (rw [hy134]; with_reducible exact H) | (have H2_ := (Option.bind_some _ _).symm.trans H; rw [hy134]; with_reducible exact H2_) | (have H2_ := (Option.bind_some _ _).symm.trans H; with_reducible exact H2_) | with_reducible exact H | (rw [hy134]; exact H) | exact H
  have Ny134 := Aside0.mk hy134
  clear hy134
  by_cases c3 : y134.length + l0_2.length < 17592186044416
  ·rw [if_pos c3] at H
   have LMc3 := Aside0.mk c3
   clear c3
   obtain ⟨y137, hy137⟩ : ∃ y_ : List Int, y_ = (y134 ++ l0_2) := ⟨_, rfl⟩
   replace H : ((some (([] : List Int) : List Int)).bind fun y140 => (if y140.length + l0_3.length < 17592186044416 then (some (a0_0, y131, y137, (y140 ++ l0_3))) else (none))) = some (r1, r2, r3, r4) := by first | (rw [hy137]; with_reducible exact H) | (have H2_ := (Option.bind_some _ _).symm.trans H; rw [hy137]; with_reducible exact H2_) | (have H2_ := (Option.bind_some _ _).symm.trans H; with_reducible exact H2_) | with_reducible exact H | (rw [hy137]; exact H) | exact H
   have Ny137 := Aside0.mk hy137
   clear hy137
   obtain ⟨y140, hy140⟩ : ∃ y_ : List Int, y_ = (([] : List Int)) := ⟨_, rfl⟩
   replace H : (if y140.length + l0_3.length < 17592186044416 then (some (a0_0, y131, y137, (y140 ++ l0_3))) else (none)) = some (r1, r2, r3, r4) := by first | (rw [hy140]; with_reducible exact H) | (have H2_ := (Option.bind_some _ _).symm.trans H; rw [hy140]; with_reducible exact H2_) | (have H2_ := (Option.bind_some _ _).symm.trans H; with_reducible exact H2_) | with_reducible exact H | (rw [hy140]; exact H) | exact H
   have Ny140 := Aside0.mk hy140
   clear hy140
   by_cases c4 : y140.length + l0_3.length < 17592186044416
   ·rw [if_pos c4] at H
    have LMc4 := Aside0.mk c4
    clear c4
    obtain ⟨y143, hy143⟩ : ∃ y_ : List Int, y_ = (y140 ++ l0_3) := ⟨_, rfl⟩
    replace H : (some (a0_0, y131, y137, y143)) = some (r1, r2, r3, r4) := by first | (rw [hy143]; with_reducible exact H) | (have H2_ := (Option.bind_some _ _).symm.trans H; rw [hy143]; with_reducible exact H2_) | (have H2_ := (Option.bind_some _ _).symm.trans H; with_reducible exact H2_) | with_reducible exact H | (rw [hy143]; exact H) | exact H
    have Ny143 := Aside0.mk hy143
    clear hy143
    simp only [Option.some.injEq, Prod.mk.injEq] at H
    obtain ⟨rfl, rfl, rfl, rfl⟩ := H
    go_enter Try.func94, Try.ntmps94
    try go_wp2_with (first | ((with_reducible refine gate_dst (N := 1) rfl ?_); refine bx (N := 1) (cs := #[.int .i64 a0_0, .slice A0_1 l0_1.length c0_1, .slice A0_2 l0_2.length c0_2, .slice A0_3 l0_3.length c0_3]) (t := 33) ?_; intro gb126 hg w5 hbox hb; have BK126 := Aside0.mk (hbox); have GW126 := Aside0.mk ((by rw [hg]; exact (below_size sqh) : w.heap.size ≤ gb126)); have GE126 := Aside0.mk ((by rw [hg]; exact (below_size sqh) : w.heap.size ≤ gb126)); replace HB := Aside0.mk (below_step sqh hb); clear hb hbox hg) | ((with_reducible refine gate_dst (N := 2) rfl ?_); refine bx (N := 2) (cs := #[.int .i64 0, .slice none 0 0, .slice none 0 0, .slice none 0 0]) (t := 33) ?_; intro gb127 hg w6 hbox hb; have BK127 := Aside0.mk (hbox); have GW127 := Aside0.mk ((by rw [hg]; exact (below_size sqh) : w.heap.size ≤ gb127)); have GE127 := Aside0.mk ((by rw [hg]; exact (below_size sqh) : w.heap.size ≤ gb127)); replace HB := Aside0.mk (below_step sqh hb); have NB126_127 := Aside0.mk ((by rw [hg]; exact Nat.ne_of_lt (blk_lt (bo BK126)) : gb126 ≠ gb127)); have NB127_126 := Aside0.mk ((by rw [hg]; exact Nat.ne_of_gt (blk_lt (bo BK126)) : gb127 ≠ gb126)); replace BK126 := Aside0.mk (blk_below (bo BK126) hb); clear hb hbox hg))
    replace BK126 := Aside0.mk (blk_drew BK126.out)
    replace BK127 := Aside0.mk (blk_drew BK127.out)
    replace HB := Aside0.mk (below_drew1 HB.out)
    refine start_ (n := 16) (S := fun w' => w'.cell? ⟨gb126, 0, none⟩ = some (.int .i64 a0_0) ∧ w'.cell? ⟨gb126, 1, none⟩ = some (.slice A0_1 l0_1.length c0_1) ∧ w'.cell? ⟨gb126, 2, none⟩ = some (.slice A0_2 l0_2.length c0_2) ∧ w'.cell? ⟨gb126, 3, none⟩ = some (.slice A0_3 l0_3.length c0_3)) (ds := []) #[false, false, false, false, false, false, false, false, false, false, false, false, false, false, false, false] sqk rfl rfl (sc4 BK126.out) (fun hHeld => ?_); refine with_tabW impl_copyAllowed.tab1 impl_copyAllowed.bits1 (fun HT_ HW_ => ?_)
    generalize w6.drew = w7 at BK126 BK127 HB hHeld ⊢
    refine pu 0 3 ?_; refine pu 3 6 ?_; refine pu 7 10 ?_; refine pu 11 14 ?_; refine ta 1 4 ?_; refine ta 4 7 ?_; refine ta 8 11 ?_; refine ta 12 15 ?_
    refine join_ (σ := Value × Value × Value × Value × Value) 3 #[true, true, true, true, true, true, true, true, true, true, true, true, true, false, false, false] (fun s_ => [(5, s_.1), (8, s_.2.1), (9, s_.2.2.1), (12, s_.2.2.2.1), (13, s_.2.2.2.2)]) (fun s_ w' => (w'.cell? ⟨gb126, 0, none⟩ = some (.int .i64 a0_0) ∧ w'.cell? ⟨gb126, 1, none⟩ = some (.slice A0_1 l0_1.length c0_1) ∧ w'.cell? ⟨gb126, 2, none⟩ = some (.slice A0_2 l0_2.length c0_2) ∧ w'.cell? ⟨gb126, 3, none⟩ = some (.slice A0_3 l0_3.length c0_3)) ∧ (Kd.R (Kd.int .i64) 3 w' w.heap.size (fun k_ => some k_ ≠ (s_.2.2.2.1 : Value).ownBlock ∧ some k_ ≠ (s_.2.2.2.2 : Value).ownBlock) s_.2.1 y131) ∧ (Kd.R (Kd.int .i64) 3 w' w.heap.size (fun k_ => some k_ ≠ (s_.2.1 : Value).ownBlock ∧ some k_ ≠ (s_.2.2.2.2 : Value).ownBlock) s_.2.2.2.1 y137) ∧ (Kd.R (Kd.int .i64) 3 w' w.heap.size (fun k_ => some k_ ≠ (s_.2.1 : Value).ownBlock ∧ some k_ ≠ (s_.2.2.2.1 : Value).ownBlock) s_.2.2.2.2 y140) ∧ (w'.heap[gb126]? = some (.cells #[.int .i64 a0_0, .slice A0_1 l0_1.length c0_1, .slice A0_2 l0_2.length c0_2, .slice A0_3 l0_3.length c0_3] 33 (0, 0))) ∧ (w'.heap[gb127]? = some (.cells #[.int .i64 0, .slice none 0 0, .slice none 0 0, .slice none 0 0] 33 (0, 0))) ∧ (Below w.heap.size w w')) ?_ ?_
    rotate_left
    ·intro hJ2_5_6_9_10
     refine join_ (σ := Value × Value × Value × Value) 4 #[true, true, true, true, true, true, true, true, true, true, false, true, true, false, false, false] (fun s_ => [(5, s_.1), (8, s_.2.1), (9, s_.2.2.1), (12, s_.2.2.2)]) (fun s_ w' => (w'.cell? ⟨gb126, 0, none⟩ = some (.int .i64 a0_0) ∧ w'.cell? ⟨gb126, 1, none⟩ = some (.slice A0_1 l0_1.length c0_1) ∧ w'.cell? ⟨gb126, 2, none⟩ = some (.slice A0_2 l0_2.length c0_2) ∧ w'.cell? ⟨gb126, 3, none⟩ = some (.slice A0_3 l0_3.length c0_3)) ∧ (Kd.R (Kd.int .i64) 3 w' w.heap.size (fun k_ => some k_ ≠ (s_.2.2.2 : Value).ownBlock) s_.2.1 y131) ∧ (Kd.R (Kd.int .i64) 3 w' w.heap.size (fun k_ => some k_ ≠ (s_.2.1 : Value).ownBlock) s_.2.2.2 y137) ∧ (w'.heap[gb126]? = some (.cells #[.int .i64 a0_0, .slice A0_1 l0_1.length c0_1, .slice A0_2 l0_2.length c0_2, .slice A0_3 l0_3.length c0_3] 33 (0, 0))) ∧ (w'.heap[gb127]? = some (.cells #[.int .i64 0, .slice none 0 0, .slice none 0 0, .slice none 0 0] 33 (0, 0))) ∧ (Below w.heap.size w w')) ?_ ?_
     rotate_left
     ·intro hJ2_5_6_9
      refine join_ (σ := Value × Value × Value × Value) 4 #[true, true, true, true, true, true, true, true, true, false, true, true, true, false, false, false] (fun s_ => [(5, s_.1), (8, s_.2.1), (9, s_.2.2.1), (13, s_.2.2.2)]) (fun s_ w' => (w'.cell? ⟨gb126, 0, none⟩ = some (.int .i64 a0_0) ∧ w'.cell? ⟨gb126, 1, none⟩ = some (.slice A0_1 l0_1.length c0_1) ∧ w'.cell? ⟨gb126, 2, none⟩ = some (.slice A0_2 l0_2.length c0_2) ∧ w'.cell? ⟨gb126, 3, none⟩ = some (.slice A0_3 l0_3.length c0_3)) ∧ (Kd.R (Kd.int .i64) 3 w' w.heap.size (fun k_ => some k_ ≠ (s_.2.2.1 : Value).ownBlock ∧ some k_ ≠ (s_.2.2.2 : Value).ownBlock) s_.2.1 y131) ∧ (Kd.R (Kd.int .i64) 3 w' w.heap.size (fun k_ => some k_ ≠ (s_.2.1 : Value).ownBlock ∧ some k_ ≠ (s_.2.2.2 : Value).ownBlock) s_.2.2.1 y134) ∧ (Kd.R (Kd.int .i64) 3 w' w.heap.size (fun k_ => some k_ ≠ (s_.2.1 : Value).ownBlock ∧ some k_ ≠ (s_.2.2.1 : Value).ownBlock) s_.2.2.2 y140) ∧ (w'.heap[gb126]? = some (.cells #[.int .i64 a0_0, .slice A0_1 l0_1.length c0_1, .slice A0_2 l0_2.length c0_2, .slice A0_3 l0_3.length c0_3] 33 (0, 0))) ∧ (w'.heap[gb127]? = some (.cells #[.int .i64 0, .slice none 0 0, .slice none 0 0, .slice none 0 0] 33 (0, 0))) ∧ (Below w.heap.size w w')) ?_ ?_
      rotate_left
      ·intro hJ2_5_6_10
       refine join_ (σ := Value × Value × Value) 5 #[true, true, true, true, true, true, true, true, true, false, false, true, true, false, false, false] (fun s_ => [(5, s_.1), (8, s_.2.1), (9, s_.2.2)]) (fun s_ w' => (w'.cell? ⟨gb126, 0, none⟩ = some (.int .i64 a0_0) ∧ w'.cell? ⟨gb126, 1, none⟩ = some (.slice A0_1 l0_1.length c0_1) ∧ w'.cell? ⟨gb126, 2, none⟩ = some (.slice A0_2 l0_2.length c0_2) ∧ w'.cell? ⟨gb126, 3, none⟩ = some (.slice A0_3 l0_3.length c0_3)) ∧ (Kd.R (Kd.int .i64) 3 w' w.heap.size (fun k_ => some k_ ≠ (s_.2.2 : Value).ownBlock) s_.2.1 y131) ∧ (Kd.R (Kd.int .i64) 3 w' w.heap.size (fun k_ => some k_ ≠ (s_.2.1 : Value).ownBlock) s_.2.2 y134) ∧ (w'.heap[gb126]? = some (.cells #[.int .i64 a0_0, .slice A0_1 l0_1.length c0_1, .slice A0_2 l0_2.length c0_2, .slice A0_3 l0_3.length c0_3] 33 (0, 0))) ∧ (w'.heap[gb127]? = some (.cells #[.int .i64 0, .slice none 0 0, .slice none 0 0, .slice none 0 0] 33 (0, 0))) ∧ (Below w.heap.size w w')) ?_ ?_
       rotate_left
       ·intro hJ2_5_6
        refine join_ (σ := Value × Value × Value) 5 #[true, true, true, true, true, true, false, true, true, false, true, true, true, false, false, false] (fun s_ => [(5, s_.1), (8, s_.2.1), (13, s_.2.2)]) (fun s_ w' => (w'.cell? ⟨gb126, 0, none⟩ = some (.int .i64 a0_0) ∧ w'.cell? ⟨gb126, 1, none⟩ = some (.slice A0_1 l0_1.length c0_1) ∧ w'.cell? ⟨gb126, 2, none⟩ = some (.slice A0_2 l0_2.length c0_2) ∧ w'.cell? ⟨gb126, 3, none⟩ = some (.slice A0_3 l0_3.length c0_3)) ∧ (Kd.R (Kd.int .i64) 3 w' w.heap.size (fun k_ => some k_ ≠ (s_.2.2 : Value).ownBlock) s_.2.1 y131) ∧ (Kd.R (Kd.int .i64) 3 w' w.heap.size (fun k_ => some k_ ≠ (s_.2.1 : Value).ownBlock) s_.2.2 y140) ∧ (w'.heap[gb126]? = some (.cells #[.int .i64 a0_0, .slice A0_1 l0_1.length c0_1, .slice A0_2 l0_2.length c0_2, .slice A0_3 l0_3.length c0_3] 33 (0, 0))) ∧ (w'.heap[gb127]? = some (.cells #[.int .i64 0, .slice none 0 0, .slice none 0 0, .slice none 0 0] 33 (0, 0))) ∧ (Below w.heap.size w w')) ?_ ?_
        rotate_left
        ·intro hJ2_5_10
         refine join_ (σ := Value × Value × Value) 5 #[true, true, true, true, true, false, true, true, true, false, true, true, true, false, false, false] (fun s_ => [(5, s_.1), (9, s_.2.1), (13, s_.2.2)]) (fun s_ w' => (w'.cell? ⟨gb126, 0, none⟩ = some (.int .i64 a0_0) ∧ w'.cell? ⟨gb126, 1, none⟩ = some (.slice A0_1 l0_1.length c0_1) ∧ w'.cell? ⟨gb126, 2, none⟩ = some (.slice A0_2 l0_2.length c0_2) ∧ w'.cell? ⟨gb126, 3, none⟩ = some (.slice A0_3 l0_3.length c0_3)) ∧ (Kd.R (Kd.int .i64) 3 w' w.heap.size (fun k_ => some k_ ≠ (s_.2.1 : Value).ownBlock ∧ some k_ ≠ (s_.2.2 : Value).ownBlock) s_.1 y128) ∧ (Kd.R (Kd.int .i64) 3 w' w.heap.size (fun k_ => some k_ ≠ (s_.1 : Value).ownBlock ∧ some k_ ≠ (s_.2.2 : Value).ownBlock) s_.2.1 y134) ∧ (Kd.R (Kd.int .i64) 3 w' w.heap.size (fun k_ => some k_ ≠ (s_.1 : Value).ownBlock ∧ some k_ ≠ (s_.2.1 : Value).ownBlock) s_.2.2 y140) ∧ (w'.heap[gb126]? = some (.cells #[.int .i64 a0_0, .slice A0_1 l0_1.length c0_1, .slice A0_2 l0_2.length c0_2, .slice A0_3 l0_3.length c0_3] 33 (0, 0))) ∧ (w'.heap[gb127]? = some (.cells #[.int .i64 0, .slice none 0 0, .slice none 0 0, .slice none 0 0] 33 (0, 0))) ∧ (Below w.heap.size w w')) ?_ ?_
         rotate_left
         ·intro hJ2_6_10
          refine join_ (σ := Value × Value) 6 #[true, true, true, true, true, true, false, true, true, false, false, true, true, false, false, false] (fun s_ => [(5, s_.1), (8, s_.2)]) (fun s_ w' => (w'.cell? ⟨gb126, 0, none⟩ = some (.int .i64 a0_0) ∧ w'.cell? ⟨gb126, 1, none⟩ = some (.slice A0_1 l0_1.length c0_1) ∧ w'.cell? ⟨gb126, 2, none⟩ = some (.slice A0_2 l0_2.length c0_2) ∧ w'.cell? ⟨gb126, 3, none⟩ = some (.slice A0_3 l0_3.length c0_3)) ∧ (Kd.R (Kd.int .i64) 3 w' w.heap.size (fun _ => True) s_.2 y131) ∧ (w'.heap[gb126]? = some (.cells #[.int .i64 a0_0, .slice A0_1 l0_1.length c0_1, .slice A0_2 l0_2.length c0_2, .slice A0_3 l0_3.length c0_3] 33 (0, 0))) ∧ (w'.heap[gb127]? = some (.cells #[.int .i64 0, .slice none 0 0, .slice none 0 0, .slice none 0 0] 33 (0, 0))) ∧ (Below w.heap.size w w')) ?_ ?_
          rotate_left
          ·intro hJ2_5
           refine join_ (σ := Value × Value) 6 #[true, true, true, true, true, false, true, true, true, false, false, true, true, false, false, false] (fun s_ => [(5, s_.1), (9, s_.2)]) (fun s_ w' => (w'.cell? ⟨gb126, 0, none⟩ = some (.int .i64 a0_0) ∧ w'.cell? ⟨gb126, 1, none⟩ = some (.slice A0_1 l0_1.length c0_1) ∧ w'.cell? ⟨gb126, 2, none⟩ = some (.slice A0_2 l0_2.length c0_2) ∧ w'.cell? ⟨gb126, 3, none⟩ = some (.slice A0_3 l0_3.length c0_3)) ∧ (Kd.R (Kd.int .i64) 3 w' w.heap.size (fun k_ => some k_ ≠ (s_.2 : Value).ownBlock) s_.1 y128) ∧ (Kd.R (Kd.int .i64) 3 w' w.heap.size (fun k_ => some k_ ≠ (s_.1 : Value).ownBlock) s_.2 y134) ∧ (w'.heap[gb126]? = some (.cells #[.int .i64 a0_0, .slice A0_1 l0_1.length c0_1, .slice A0_2 l0_2.length c0_2, .slice A0_3 l0_3.length c0_3] 33 (0, 0))) ∧ (w'.heap[gb127]? = some (.cells #[.int .i64 0, .slice none 0 0, .slice none 0 0, .slice none 0 0] 33 (0, 0))) ∧ (Below w.heap.size w w')) ?_ ?_
           rotate_left
           ·intro hJ2_6
            refine join_ (σ := Value × Value) 6 #[true, true, true, true, true, false, false, true, true, false, true, true, true, false, false, false] (fun s_ => [(5, s_.1), (13, s_.2)]) (fun s_ w' => (w'.cell? ⟨gb126, 0, none⟩ = some (.int .i64 a0_0) ∧ w'.cell? ⟨gb126, 1, none⟩ = some (.slice A0_1 l0_1.length c0_1) ∧ w'.cell? ⟨gb126, 2, none⟩ = some (.slice A0_2 l0_2.length c0_2) ∧ w'.cell? ⟨gb126, 3, none⟩ = some (.slice A0_3 l0_3.length c0_3)) ∧ (Kd.R (Kd.int .i64) 3 w' w.heap.size (fun k_ => some k_ ≠ (s_.2 : Value).ownBlock) s_.1 y128) ∧ (Kd.R (Kd.int .i64) 3 w' w.heap.size (fun k_ => some k_ ≠ (s_.1 : Value).ownBlock) s_.2 y140) ∧ (w'.heap[gb126]? = some (.cells #[.int .i64 a0_0, .slice A0_1 l0_1.length c0_1, .slice A0_2 l0_2.length c0_2, .slice A0_3 l0_3.length c0_3] 33 (0, 0))) ∧ (w'.heap[gb127]? = some (.cells #[.int .i64 0, .slice none 0 0, .slice none 0 0, .slice none 0 0] 33 (0, 0))) ∧ (Below w.heap.size w w')) ?_ ?_
            rotate_left
            ·intro hJ2_10
             refine join_ (σ := Value × Value) 6 #[true, true, false, true, true, false, true, true, true, false, true, true, true, false, false, false] (fun s_ => [(9, s_.1), (13, s_.2)]) (fun s_ w' => (w'.cell? ⟨gb126, 0, none⟩ = some (.int .i64 a0_0) ∧ w'.cell? ⟨gb126, 1, none⟩ = some (.slice A0_1 l0_1.length c0_1) ∧ w'.cell? ⟨gb126, 2, none⟩ = some (.slice A0_2 l0_2.length c0_2) ∧ w'.cell? ⟨gb126, 3, none⟩ = some (.slice A0_3 l0_3.length c0_3)) ∧ (Kd.R (Kd.int .i64) 3 w' w.heap.size (fun k_ => some k_ ≠ (s_.2 : Value).ownBlock) s_.1 y134) ∧ (Kd.R (Kd.int .i64) 3 w' w.heap.size (fun k_ => some k_ ≠ (s_.1 : Value).ownBlock) s_.2 y140) ∧ (w'.heap[gb126]? = some (.cells #[.int .i64 a0_0, .slice A0_1 l0_1.length c0_1, .slice A0_2 l0_2.length c0_2, .slice A0_3 l0_3.length c0_3] 33 (0, 0))) ∧ (w'.heap[gb127]? = some (.cells #[.int .i64 0, .slice none 0 0, .slice none 0 0, .slice none 0 0] 33 (0, 0))) ∧ (Below w.heap.size w w')) ?_ ?_
             rotate_left
             ·intro hJ6_10
              refine join_ (σ := Value) 7 #[true, true, true, true, true, false, false, true, true, false, false, true, true, false, false, false] (fun s_ => [(5, s_)]) (fun s_ w' => (w'.cell? ⟨gb126, 0, none⟩ = some (.int .i64 a0_0) ∧ w'.cell? ⟨gb126, 1, none⟩ = some (.slice A0_1 l0_1.length c0_1) ∧ w'.cell? ⟨gb126, 2, none⟩ = some (.slice A0_2 l0_2.length c0_2) ∧ w'.cell? ⟨gb126, 3, none⟩ = some (.slice A0_3 l0_3.length c0_3)) ∧ (Kd.R (Kd.int .i64) 3 w' w.heap.size (fun _ => True) s_ y128) ∧ (w'.heap[gb126]? = some (.cells #[.int .i64 a0_0, .slice A0_1 l0_1.length c0_1, .slice A0_2 l0_2.length c0_2, .slice A0_3 l0_3.length c0_3] 33 (0, 0))) ∧ (w'.heap[gb127]? = some (.cells #[.int .i64 0, .slice none 0 0, .slice none 0 0, .slice none 0 0] 33 (0, 0))) ∧ (Below w.heap.size w w')) ?_ ?_
              rotate_left
              ·intro hJ2
               refine join_ (σ := Value) 7 #[true, true, false, true, true, false, true, true, true, false, false, true, true, false, false, false] (fun s_ => [(9, s_)]) (fun s_ w' => (w'.cell? ⟨gb126, 0, none⟩ = some (.int .i64 a0_0) ∧ w'.cell? ⟨gb126, 1, none⟩ = some (.slice A0_1 l0_1.length c0_1) ∧ w'.cell? ⟨gb126, 2, none⟩ = some (.slice A0_2 l0_2.length c0_2) ∧ w'.cell? ⟨gb126, 3, none⟩ = some (.slice A0_3 l0_3.length c0_3)) ∧ (Kd.R (Kd.int .i64) 3 w' w.heap.size (fun _ => True) s_ y134) ∧ (w'.heap[gb126]? = some (.cells #[.int .i64 a0_0, .slice A0_1 l0_1.length c0_1, .slice A0_2 l0_2.length c0_2, .slice A0_3 l0_3.length c0_3] 33 (0, 0))) ∧ (w'.heap[gb127]? = some (.cells #[.int .i64 0, .slice none 0 0, .slice none 0 0, .slice none 0 0] 33 (0, 0))) ∧ (Below w.heap.size w w')) ?_ ?_
               rotate_left
               ·intro hJ6
                refine join_ (σ := Value) 7 #[true, true, false, true, true, false, false, true, true, false, true, true, true, false, false, false] (fun s_ => [(13, s_)]) (fun s_ w' => (w'.cell? ⟨gb126, 0, none⟩ = some (.int .i64 a0_0) ∧ w'.cell? ⟨gb126, 1, none⟩ = some (.slice A0_1 l0_1.length c0_1) ∧ w'.cell? ⟨gb126, 2, none⟩ = some (.slice A0_2 l0_2.length c0_2) ∧ w'.cell? ⟨gb126, 3, none⟩ = some (.slice A0_3 l0_3.length c0_3)) ∧ (Kd.R (Kd.int .i64) 3 w' w.heap.size (fun _ => True) s_ y140) ∧ (w'.heap[gb126]? = some (.cells #[.int .i64 a0_0, .slice A0_1 l0_1.length c0_1, .slice A0_2 l0_2.length c0_2, .slice A0_3 l0_3.length c0_3] 33 (0, 0))) ∧ (w'.heap[gb127]? = some (.cells #[.int .i64 0, .slice none 0 0, .slice none 0 0, .slice none 0 0] 33 (0, 0))) ∧ (Below w.heap.size w w')) ?_ ?_
                rotate_left
                ·intro hJ10
                 refine three_ (i := 2) (j := 6) (k := 10) (Ni := some 5) (Nj := some 9) (Nk := some 13) #[true, true, true, true, true, false, false, true, true, false, false, true, true, false, false, false] #[true, true, false, true, true, false, true, true, true, false, false, true, true, false, false, false] #[true, true, false, true, true, false, false, true, true, false, true, true, true, false, false, false] rfl rfl rfl rfl rfl rfl (three_of HT_.out sqk) (by decide) (by decide) (by decide) (fun K hK => ?_) (fun K hK => ?_) (fun K hK => ?_)
                 ·skip
                  refine Kd.R_lit_step (Kd.int .i64) _ 3 ?hg (N := 5) ?hd (xs := ([] : List Int)) (inner := []) (ok := fun _ => True) (okp := fun _ => True) ?hr ?hp (fun _ hk => hk) trivial (Below.refl _ _) (Nat.le_refl _) (by simp) ?_; (case hd => rfl); (case hg => rfl); (case hr => first | (go_simp; done) | (go_simp; rfl)); (case hp => exact (Reps.none _ _))
                  intro v129 w8 ho9 hb hg_ hnew_
                  clear hg_ hnew_
                  (first | rw [← Ny128.out] at ho9 | (simp only [Int.reduceToNat] at ho9; rw [← Ny128.out] at ho9))
                  have HO130 := Aside0.mk (Kd.R_lower ho9 (below_size sqh))
                  replace BK126 := Aside0.mk (blk_below (bo BK126) hb)
                  replace BK127 := Aside0.mk (blk_below (bo BK127) hb)
                  replace HB := Aside0.mk (below_step sqh hb)
                  clear hb ho9
                  refine hK.out _ _ (sc4 BK126.out) (fun hHeld => ?_)
                  clear hK K; refine no 5 ?_
                  exact norm_ z94_0 (hJ2 (v129) _ ⟨hHeld, (sqq HO130.out), (sqb BK126.out), (sqb BK127.out), sqh⟩)
                 ·skip
                  refine Kd.R_lit_step (Kd.int .i64) _ 3 ?hg (N := 9) ?hd (xs := ([] : List Int)) (inner := []) (ok := fun _ => True) (okp := fun _ => True) ?hr ?hp (fun _ hk => hk) trivial (Below.refl _ _) (Nat.le_refl _) (by simp) ?_; (case hd => rfl); (case hg => rfl); (case hr => first | (go_simp; done) | (go_simp; rfl)); (case hp => exact (Reps.none _ _))
                  intro v135 w8 ho9 hb hg_ hnew_
                  clear hg_ hnew_
                  (first | rw [← Ny134.out] at ho9 | (simp only [Int.reduceToNat] at ho9; rw [← Ny134.out] at ho9))
                  have HO136 := Aside0.mk (Kd.R_lower ho9 (below_size sqh))
                  replace BK126 := Aside0.mk (blk_below (bo BK126) hb)
                  replace BK127 := Aside0.mk (blk_below (bo BK127) hb)
                  replace HB := Aside0.mk (below_step sqh hb)
                  clear hb ho9
                  refine hK.out _ _ (sc4 BK126.out) (fun hHeld => ?_)
                  clear hK K; refine no 9 ?_
                  exact norm_ z94_0 (hJ6 (v135) _ ⟨hHeld, (sqq HO136.out), (sqb BK126.out), (sqb BK127.out), sqh⟩)
                 ·skip
                  refine Kd.R_lit_step (Kd.int .i64) _ 3 ?hg (N := 13) ?hd (xs := ([] : List Int)) (inner := []) (ok := fun _ => True) (okp := fun _ => True) ?hr ?hp (fun _ hk => hk) trivial (Below.refl _ _) (Nat.le_refl _) (by simp) ?_; (case hd => rfl); (case hg => rfl); (case hr => first | (go_simp; done) | (go_simp; rfl)); (case hp => exact (Reps.none _ _))
                  intro v141 w8 ho9 hb hg_ hnew_
                  clear hg_ hnew_
                  (first | rw [← Ny140.out] at ho9 | (simp only [Int.reduceToNat] at ho9; rw [← Ny140.out] at ho9))
                  have HO142 := Aside0.mk (Kd.R_lower ho9 (below_size sqh))
                  replace BK126 := Aside0.mk (blk_below (bo BK126) hb)
                  replace BK127 := Aside0.mk (blk_below (bo BK127) hb)
                  replace HB := Aside0.mk (below_step sqh hb)
                  clear hb ho9
                  refine hK.out _ _ (sc4 BK126.out) (fun hHeld => ?_)
                  clear hK K; refine no 13 ?_
                  exact norm_ z94_0 (hJ10 (v141) _ ⟨hHeld, (sqq HO142.out), (sqb BK126.out), (sqb BK127.out), sqh⟩)
                ·skip
                 rintro v141 w10 ⟨hS_, h0_, h1_, h2_, h3_⟩
                 have n0_ : Aside0 (Kd.R (Kd.int .i64) 3 w10 w.heap.size (fun _ => True) v141 y140) := ⟨h0_⟩
                 have n1_ : Aside0 (w10.heap[gb126]? = some (.cells #[.int .i64 a0_0, .slice A0_1 l0_1.length c0_1, .slice A0_2 l0_2.length c0_2, .slice A0_3 l0_3.length c0_3] 33 (0, 0))) := ⟨h1_⟩
                 have n2_ : Aside0 (w10.heap[gb127]? = some (.cells #[.int .i64 0, .slice none 0 0, .slice none 0 0, .slice none 0 0] 33 (0, 0))) := ⟨h2_⟩
                 have n3_ : Aside0 (Below w.heap.size w w10) := ⟨h3_⟩
                 clear BK126; clear BK127; clear HB; clear h0_ h1_ h2_ h3_
                 have HO142 := n0_
                 have BK126 := n1_
                 have BK127 := n2_
                 have HB := n3_
                 clear n0_ n1_ n2_ n3_
                 have hHeld : w10.cell? ⟨gb126, 0, none⟩ = some (.int .i64 a0_0) ∧ w10.cell? ⟨gb126, 1, none⟩ = some (.slice A0_1 l0_1.length c0_1) ∧ w10.cell? ⟨gb126, 2, none⟩ = some (.slice A0_2 l0_2.length c0_2) ∧ w10.cell? ⟨gb126, 3, none⟩ = some (.slice A0_3 l0_3.length c0_3) := hS_
                 refine norm_ (a' := ?_) ?_ ?_
                 rotate_left
                 ·simp only [putAll, Act.put, List.setIfInBounds_toArray, List.set_cons_zero, List.set_cons_succ]
                  rfl
                 refine two_ (i := 2) (j := 6) (Ni := some 5) (Nj := some 9) #[true, true, true, true, true, false, false, true, true, false, true, true, true, false, false, false] #[true, true, false, true, true, false, true, true, true, false, true, true, true, false, false, false] rfl rfl rfl rfl (two_of HT_.out sqk) (by decide) (by decide) (fun K hK => ?_) (fun K hK => ?_)
                 ·skip
                  refine Kd.R_lit_step (Kd.int .i64) _ 3 ?hg (N := 5) ?hd (xs := ([] : List Int)) (inner := []) (ok := fun _ => True) (okp := fun _ => True) ?hr ?hp (fun _ hk => hk) trivial (Below.refl _ _) (Nat.le_refl _) (by simp) ?_; (case hd => rfl); (case hg => rfl); (case hr => first | (go_simp; done) | (go_simp; rfl)); (case hp => exact (Reps.none _ _))
                  intro v129 w11 ho12 hb hg_ hnew_
                  clear hg_ hnew_
                  (first | rw [← Ny128.out] at ho12 | (simp only [Int.reduceToNat] at ho12; rw [← Ny128.out] at ho12))
                  have HO130 := Aside0.mk (Kd.R_lower (Kd.R_new' ho12 (Kd.R_lt (sqq HO142.out))) (below_size sqh))
                  replace HO142 := Aside0.mk (Kd.R_elder' (sqq HO142.out) (Kd.R_base ho12) hb)
                  replace BK126 := Aside0.mk (blk_below (bo BK126) hb)
                  replace BK127 := Aside0.mk (blk_below (bo BK127) hb)
                  replace HB := Aside0.mk (below_step sqh hb)
                  clear hb ho12
                  refine hK.out _ _ (sc4 BK126.out) (fun hHeld => ?_)
                  clear hK K; refine no 5 ?_
                  exact norm_ z94_0 (hJ2_10 (v129, v141) _ ⟨hHeld, z94_3, z94_1, (sqb BK126.out), (sqb BK127.out), sqh⟩)
                 ·skip
                  refine Kd.R_lit_step (Kd.int .i64) _ 3 ?hg (N := 9) ?hd (xs := ([] : List Int)) (inner := []) (ok := fun _ => True) (okp := fun _ => True) ?hr ?hp (fun _ hk => hk) trivial (Below.refl _ _) (Nat.le_refl _) (by simp) ?_; (case hd => rfl); (case hg => rfl); (case hr => first | (go_simp; done) | (go_simp; rfl)); (case hp => exact (Reps.none _ _))
                  intro v135 w11 ho12 hb hg_ hnew_
                  clear hg_ hnew_
                  (first | rw [← Ny134.out] at ho12 | (simp only [Int.reduceToNat] at ho12; rw [← Ny134.out] at ho12))
                  have HO136 := Aside0.mk (Kd.R_lower (Kd.R_new' ho12 (Kd.R_lt (sqq HO142.out))) (below_size sqh))
                  replace HO142 := Aside0.mk (Kd.R_elder' (sqq HO142.out) (Kd.R_base ho12) hb)
                  replace BK126 := Aside0.mk (blk_below (bo BK126) hb)
                  replace BK127 := Aside0.mk (blk_below (bo BK127) hb)
                  replace HB := Aside0.mk (below_step sqh hb)
                  clear hb ho12
                  refine hK.out _ _ (sc4 BK126.out) (fun hHeld => ?_)
                  clear hK K; refine no 9 ?_
                  exact norm_ z94_0 (hJ6_10 (v135, v141) _ ⟨hHeld, z94_2, z94_1, (sqb BK126.out), (sqb BK127.out), sqh⟩)
               ·skip
                rintro v135 w10 ⟨hS_, h0_, h1_, h2_, h3_⟩
                have n0_ : Aside0 (Kd.R (Kd.int .i64) 3 w10 w.heap.size (fun _ => True) v135 y134) := ⟨h0_⟩
                have n1_ : Aside0 (w10.heap[gb126]? = some (.cells #[.int .i64 a0_0, .slice A0_1 l0_1.length c0_1, .slice A0_2 l0_2.length c0_2, .slice A0_3 l0_3.length c0_3] 33 (0, 0))) := ⟨h1_⟩
                have n2_ : Aside0 (w10.heap[gb127]? = some (.cells #[.int .i64 0, .slice none 0 0, .slice none 0 0, .slice none 0 0] 33 (0, 0))) := ⟨h2_⟩
                have n3_ : Aside0 (Below w.heap.size w w10) := ⟨h3_⟩
                clear BK126; clear BK127; clear HB; clear h0_ h1_ h2_ h3_
                have HO136 := n0_
                have BK126 := n1_
                have BK127 := n2_
                have HB := n3_
                clear n0_ n1_ n2_ n3_
                have hHeld : w10.cell? ⟨gb126, 0, none⟩ = some (.int .i64 a0_0) ∧ w10.cell? ⟨gb126, 1, none⟩ = some (.slice A0_1 l0_1.length c0_1) ∧ w10.cell? ⟨gb126, 2, none⟩ = some (.slice A0_2 l0_2.length c0_2) ∧ w10.cell? ⟨gb126, 3, none⟩ = some (.slice A0_3 l0_3.length c0_3) := hS_
                refine norm_ (a' := ?_) ?_ ?_
                rotate_left
                ·simp only [putAll, Act.put, List.setIfInBounds_toArray, List.set_cons_zero, List.set_cons_succ]
                 rfl
                refine two_ (i := 2) (j := 10) (Ni := some 5) (Nj := some 13) #[true, true, true, true, true, false, true, true, true, false, false, true, true, false, false, false] #[true, true, false, true, true, false, true, true, true, false, true, true, true, false, false, false] rfl rfl rfl rfl (two_of HT_.out sqk) (by decide) (by decide) (fun K hK => ?_) (fun K hK => ?_)
                ·skip
                 refine Kd.R_lit_step (Kd.int .i64) _ 3 ?hg (N := 5) ?hd (xs := ([] : List Int)) (inner := []) (ok := fun _ => True) (okp := fun _ => True) ?hr ?hp (fun _ hk => hk) trivial (Below.refl _ _) (Nat.le_refl _) (by simp) ?_; (case hd => rfl); (case hg => rfl); (case hr => first | (go_simp; done) | (go_simp; rfl)); (case hp => exact (Reps.none _ _))
                 intro v129 w11 ho12 hb hg_ hnew_
                 clear hg_ hnew_
                 (first | rw [← Ny128.out] at ho12 | (simp only [Int.reduceToNat] at ho12; rw [← Ny128.out] at ho12))
                 have HO130 := Aside0.mk (Kd.R_lower (Kd.R_new' ho12 (Kd.R_lt (sqq HO136.out))) (below_size sqh))
                 replace HO136 := Aside0.mk (Kd.R_elder' (sqq HO136.out) (Kd.R_base ho12) hb)
                 replace BK126 := Aside0.mk (blk_below (bo BK126) hb)
                 replace BK127 := Aside0.mk (blk_below (bo BK127) hb)
                 replace HB := Aside0.mk (below_step sqh hb)
                 clear hb ho12
                 refine hK.out _ _ (sc4 BK126.out) (fun hHeld => ?_)
                 clear hK K; refine no 5 ?_
                 exact norm_ z94_0 (hJ2_6 (v129, v135) _ ⟨hHeld, z94_3, z94_2, (sqb BK126.out), (sqb BK127.out), sqh⟩)
                ·skip
                 refine Kd.R_lit_step (Kd.int .i64) _ 3 ?hg (N := 13) ?hd (xs := ([] : List Int)) (inner := []) (ok := fun _ => True) (okp := fun _ => True) ?hr ?hp (fun _ hk => hk) trivial (Below.refl _ _) (Nat.le_refl _) (by simp) ?_; (case hd => rfl); (case hg => rfl); (case hr => first | (go_simp; done) | (go_simp; rfl)); (case hp => exact (Reps.none _ _))
                 intro v141 w11 ho12 hb hg_ hnew_
                 clear hg_ hnew_
                 (first | rw [← Ny140.out] at ho12 | (simp only [Int.reduceToNat] at ho12; rw [← Ny140.out] at ho12))
                 have HO142 := Aside0.mk (Kd.R_lower (Kd.R_new' ho12 (Kd.R_lt (sqq HO136.out))) (below_size sqh))
                 replace HO136 := Aside0.mk (Kd.R_elder' (sqq HO136.out) (Kd.R_base ho12) hb)
                 replace BK126 := Aside0.mk (blk_below (bo BK126) hb)
                 replace BK127 := Aside0.mk (blk_below (bo BK127) hb)
                 replace HB := Aside0.mk (below_step sqh hb)
                 clear hb ho12
                 refine hK.out _ _ (sc4 BK126.out) (fun hHeld => ?_)
                 clear hK K; refine no 13 ?_
                 exact norm_ z94_0 (hJ6_10 (v135, v141) _ ⟨hHeld, z94_2, z94_1, (sqb BK126.out), (sqb BK127.out), sqh⟩)
              ·skip
               rintro v129 w10 ⟨hS_, h0_, h1_, h2_, h3_⟩
               have n0_ : Aside0 (Kd.R (Kd.int .i64) 3 w10 w.heap.size (fun _ => True) v129 y128) := ⟨h0_⟩
               have n1_ : Aside0 (w10.heap[gb126]? = some (.cells #[.int .i64 a0_0, .slice A0_1 l0_1.length c0_1, .slice A0_2 l0_2.length c0_2, .slice A0_3 l0_3.length c0_3] 33 (0, 0))) := ⟨h1_⟩
               have n2_ : Aside0 (w10.heap[gb127]? = some (.cells #[.int .i64 0, .slice none 0 0, .slice none 0 0, .slice none 0 0] 33 (0, 0))) := ⟨h2_⟩
               have n3_ : Aside0 (Below w.heap.size w w10) := ⟨h3_⟩
               clear BK126; clear BK127; clear HB; clear h0_ h1_ h2_ h3_
               have HO130 := n0_
               have BK126 := n1_
               have BK127 := n2_
               have HB := n3_
               clear n0_ n1_ n2_ n3_
               have hHeld : w10.cell? ⟨gb126, 0, none⟩ = some (.int .i64 a0_0) ∧ w10.cell? ⟨gb126, 1, none⟩ = some (.slice A0_1 l0_1.length c0_1) ∧ w10.cell? ⟨gb126, 2, none⟩ = some (.slice A0_2 l0_2.length c0_2) ∧ w10.cell? ⟨gb126, 3, none⟩ = some (.slice A0_3 l0_3.length c0_3) := hS_
               refine norm_ (a' := ?_) ?_ ?_
               rotate_left
               ·simp only [putAll, Act.put, List.setIfInBounds_toArray, List.set_cons_zero, List.set_cons_succ]
                rfl
               refine three_ (i := 5) (j := 6) (k := 10) (Ni := some 8) (Nj := some 9) (Nk := some 13) #[true, true, true, true, true, true, false, true, true, false, false, true, true, false, false, false] #[true, true, true, true, true, false, true, true, true, false, false, true, true, false, false, false] #[true, true, true, true, true, false, false, true, true, false, true, true, true, false, false, false] rfl rfl rfl rfl rfl rfl (three_of HT_.out sqk) (by decide) (by decide) (by decide) (fun K hK => ?_) (fun K hK => ?_) (fun K hK => ?_)
               ·skip
                refine Kd.R_append_rows_step (Kd.int .i64) (w0 := w) w.heap.size (by rfl) (.tmp 5) (.tmp 7) 28 3 (.int .i64 0) 8 rfl Try.underlying28 info3 rfl (by decide) (by omega) v129 y128 l0_1 _ _ _ (fun _ => True) (fun _ => False) rfl rfl ?aO ?aR (fun _ _ h => h) (fun _ h => h.elim) ?aF ?aB ?aS ?aL ?_
                (case aR => repeat (first | exact (Kd.C_below HR0_1.out HB.out) | (with_reducible refine Kd.C_alloc ?_ _) | (with_reducible refine Kd.C_drewN ?_ _) | (with_reducible refine Kd.C_drew ?_)))
                (case aB => exact sqh)
                (case aF => exact (fun _ _ => trivial))
                (case aO => exact (sqq HO130.out))
                (case aS => exact (below_size sqh))
                (case aL => have := LMc2.out; omega)
                intro v132 w11 ho hb hg hat
                rw [← Ny131.out] at ho
                replace BK126 := Aside0.mk (blk_grown (bo BK126) hg (Kd.R_ne HO130.out BK126.out (by decide)))
                replace BK127 := Aside0.mk (blk_grown (bo BK127) hg (Kd.R_ne HO130.out BK127.out (by decide)))
                replace HB := Aside0.mk (hb)
                have HO133 := Aside0.mk (ho)
                clear HO130; clear ho hb hg hat
                refine hK.out _ _ (sc4 BK126.out) (fun hHeld => ?_)
                clear hK K; refine no 8 ?_
                exact norm_ z94_0 (hJ2_5 (v129, v132) _ ⟨hHeld, (sqq HO133.out), (sqb BK126.out), (sqb BK127.out), sqh⟩)
               ·skip
                refine Kd.R_lit_step (Kd.int .i64) _ 3 ?hg (N := 9) ?hd (xs := ([] : List Int)) (inner := []) (ok := fun _ => True) (okp := fun _ => True) ?hr ?hp (fun _ hk => hk) trivial (Below.refl _ _) (Nat.le_refl _) (by simp) ?_; (case hd => rfl); (case hg => rfl); (case hr => first | (go_simp; done) | (go_simp; rfl)); (case hp => exact (Reps.none _ _))
                intro v135 w11 ho12 hb hg_ hnew_
                clear hg_ hnew_
                (first | rw [← Ny134.out] at ho12 | (simp only [Int.reduceToNat] at ho12; rw [← Ny134.out] at ho12))
                have HO136 := Aside0.mk (Kd.R_lower (Kd.R_new' ho12 (Kd.R_lt (sqq HO130.out))) (below_size sqh))
                replace HO130 := Aside0.mk (Kd.R_elder' (sqq HO130.out) (Kd.R_base ho12) hb)
                replace BK126 := Aside0.mk (blk_below (bo BK126) hb)
                replace BK127 := Aside0.mk (blk_below (bo BK127) hb)
                replace HB := Aside0.mk (below_step sqh hb)
                clear hb ho12
                refine hK.out _ _ (sc4 BK126.out) (fun hHeld => ?_)
                clear hK K; refine no 9 ?_
                exact norm_ z94_0 (hJ2_6 (v129, v135) _ ⟨hHeld, z94_3, z94_2, (sqb BK126.out), (sqb BK127.out), sqh⟩)
               ·skip
                refine Kd.R_lit_step (Kd.int .i64) _ 3 ?hg (N := 13) ?hd (xs := ([] : List Int)) (inner := []) (ok := fun _ => True) (okp := fun _ => True) ?hr ?hp (fun _ hk => hk) trivial (Below.refl _ _) (Nat.le_refl _) (by simp) ?_; (case hd => rfl); (case hg => rfl); (case hr => first | (go_simp; done) | (go_simp; rfl)); (case hp => exact (Reps.none _ _))
                intro v141 w11 ho12 hb hg_ hnew_
                clear hg_ hnew_
                (first | rw [← Ny140.out] at ho12 | (simp only [Int.reduceToNat] at ho12; rw [← Ny140.out] at ho12))
                have HO142 := Aside0.mk (Kd.R_lower (Kd.R_new' ho12 (Kd.R_lt (sqq HO130.out))) (below_size sqh))
                replace HO130 := Aside0.mk (Kd.R_elder' (sqq HO130.out) (Kd.R_base ho12) hb)
                replace BK126 := Aside0.mk (blk_below (bo BK126) hb)
                replace BK127 := Aside0.mk (blk_below (bo BK127) hb)
                replace HB := Aside0.mk (below_step sqh hb)
                clear hb ho12
                refine hK.out _ _ (sc4 BK126.out) (fun hHeld => ?_)
                clear hK K; refine no 13 ?_
                exact norm_ z94_0 (hJ2_10 (v129, v141) _ ⟨hHeld, z94_3, z94_1, (sqb BK126.out), (sqb BK127.out), sqh⟩)
             ·skip
              rintro ⟨v135, v141⟩ w12 ⟨hS_, h0_, h1_, h2_, h3_, h4_⟩
              have n0_ : Aside0 (Kd.R (Kd.int .i64) 3 w12 w.heap.size (fun k_ => some k_ ≠ (v141 : Value).ownBlock) v135 y134) := ⟨h0_⟩
              have n1_ : Aside0 (Kd.R (Kd.int .i64) 3 w12 w.heap.size (fun k_ => some k_ ≠ (v135 : Value).ownBlock) v141 y140) := ⟨h1_⟩
              have n2_ : Aside0 (w12.heap[gb126]? = some (.cells #[.int .i64 a0_0, .slice A0_1 l0_1.length c0_1, .slice A0_2 l0_2.length c0_2, .slice A0_3 l0_3.length c0_3] 33 (0, 0))) := ⟨h2_⟩
              have n3_ : Aside0 (w12.heap[gb127]? = some (.cells #[.int .i64 0, .slice none 0 0, .slice none 0 0, .slice none 0 0] 33 (0, 0))) := ⟨h3_⟩
              have n4_ : Aside0 (Below w.heap.size w w12) := ⟨h4_⟩
              clear BK126; clear BK127; clear HB; clear h0_ h1_ h2_ h3_ h4_
              have HO136 := n0_
              have HO142 := n1_
              have BK126 := n2_
              have BK127 := n3_
              have HB := n4_
              clear n0_ n1_ n2_ n3_ n4_
              have hHeld : w12.cell? ⟨gb126, 0, none⟩ = some (.int .i64 a0_0) ∧ w12.cell? ⟨gb126, 1, none⟩ = some (.slice A0_1 l0_1.length c0_1) ∧ w12.cell? ⟨gb126, 2, none⟩ = some (.slice A0_2 l0_2.length c0_2) ∧ w12.cell? ⟨gb126, 3, none⟩ = some (.slice A0_3 l0_3.length c0_3) := hS_
              refine norm_ (a' := ?_) ?_ ?_
              rotate_left
              ·simp only [putAll, Act.put, List.setIfInBounds_toArray, List.set_cons_zero, List.set_cons_succ]
               rfl
              refine on 2 (some 5) (fun K hK => ?_)
              refine Kd.R_lit_step (Kd.int .i64) _ 3 ?hg (N := 5) ?hd (xs := ([] : List Int)) (inner := []) (ok := fun _ => True) (okp := fun _ => True) ?hr ?hp (fun _ hk => hk) trivial (Below.refl _ _) (Nat.le_refl _) (by simp) ?_; (case hd => rfl); (case hg => rfl); (case hr => first | (go_simp; done) | (go_simp; rfl)); (case hp => exact (Reps.none _ _))
              intro v129 w13 ho14 hb hg_ hnew_
              clear hg_ hnew_
              (first | rw [← Ny128.out] at ho14 | (simp only [Int.reduceToNat] at ho14; rw [← Ny128.out] at ho14))
              have HO130 := Aside0.mk (Kd.R_lower (Kd.R_new' (Kd.R_new' ho14 (Kd.R_lt (sqq HO136.out))) (Kd.R_lt (sqq HO142.out))) (below_size sqh))
              replace HO136 := Aside0.mk (Kd.R_elder' (sqq HO136.out) (Kd.R_base ho14) hb)
              replace HO142 := Aside0.mk (Kd.R_elder' (sqq HO142.out) (Kd.R_base ho14) hb)
              replace BK126 := Aside0.mk (blk_below (bo BK126) hb)
              replace BK127 := Aside0.mk (blk_below (bo BK127) hb)
              replace HB := Aside0.mk (below_step sqh hb)
              clear hb ho14
              refine hK.out _ _ (sc4 BK126.out) (fun hHeld => ?_)
              clear hK K; refine no 5 ?_
              exact norm_ z94_0 (hJ2_6_10 (v129, v135, v141) _ ⟨hHeld, (by (with_reducible repeat (first | apply Kd.R_alloc | apply Kd.R_drewN | apply Kd.R_drew)); exact Kd.R_mono HO130.out (fun _ hk => ⟨hk.1.2, hk.2⟩)), z94_6, z94_5, (sqb BK126.out), (sqb BK127.out), sqh⟩)
            ·skip
             rintro ⟨v129, v141⟩ w12 ⟨hS_, h0_, h1_, h2_, h3_, h4_⟩
             have n0_ : Aside0 (Kd.R (Kd.int .i64) 3 w12 w.heap.size (fun k_ => some k_ ≠ (v141 : Value).ownBlock) v129 y128) := ⟨h0_⟩
             have n1_ : Aside0 (Kd.R (Kd.int .i64) 3 w12 w.heap.size (fun k_ => some k_ ≠ (v129 : Value).ownBlock) v141 y140) := ⟨h1_⟩
             have n2_ : Aside0 (w12.heap[gb126]? = some (.cells #[.int .i64 a0_0, .slice A0_1 l0_1.length c0_1, .slice A0_2 l0_2.length c0_2, .slice A0_3 l0_3.length c0_3] 33 (0, 0))) := ⟨h2_⟩
             have n3_ : Aside0 (w12.heap[gb127]? = some (.cells #[.int .i64 0, .slice none 0 0, .slice none 0 0, .slice none 0 0] 33 (0, 0))) := ⟨h3_⟩
             have n4_ : Aside0 (Below w.heap.size w w12) := ⟨h4_⟩
             clear BK126; clear BK127; clear HB; clear h0_ h1_ h2_ h3_ h4_
             have HO130 := n0_
             have HO142 := n1_
             have BK126 := n2_
             have BK127 := n3_
             have HB := n4_
             clear n0_ n1_ n2_ n3_ n4_
             have hHeld : w12.cell? ⟨gb126, 0, none⟩ = some (.int .i64 a0_0) ∧ w12.cell? ⟨gb126, 1, none⟩ = some (.slice A0_1 l0_1.length c0_1) ∧ w12.cell? ⟨gb126, 2, none⟩ = some (.slice A0_2 l0_2.length c0_2) ∧ w12.cell? ⟨gb126, 3, none⟩ = some (.slice A0_3 l0_3.length c0_3) := hS_
             refine norm_ (a' := ?_) ?_ ?_
             rotate_left
             ·simp only [putAll, Act.put, List.setIfInBounds_toArray, List.set_cons_zero, List.set_cons_succ]
              rfl
             refine two_ (i := 5) (j := 6) (Ni := some 8) (Nj := some 9) #[true, true, true, true, true, true, false, true, true, false, true, true, true, false, false, false] #[true, true, true, true, true, false, true, true, true, false, true, true, true, false, false, false] rfl rfl rfl rfl (two_of HT_.out sqk) (by decide) (by decide) (fun K hK => ?_) (fun K hK => ?_)
             ·skip
              refine Kd.R_append_rows_step (Kd.int .i64) (w0 := w) w.heap.size (by rfl) (.tmp 5) (.tmp 7) 28 3 (.int .i64 0) 8 rfl Try.underlying28 info3 rfl (by decide) (by omega) v129 y128 l0_1 _ _ _ (fun k_ => some k_ ≠ (v141 : Value).ownBlock) (fun _ => False) rfl rfl ?aO ?aR (fun _ _ h => h) (fun _ h => h.elim) ?aF ?aB ?aS ?aL ?_
              (case aR => repeat (first | exact (Kd.C_below HR0_1.out HB.out) | (with_reducible refine Kd.C_alloc ?_ _) | (with_reducible refine Kd.C_drewN ?_ _) | (with_reducible refine Kd.C_drew ?_)))
              (case aB => exact sqh)
              (case aF => exact (fun k_ hk => Kd.fresh' (Kd.R_lt (sqq HO142.out)) k_ hk))
              (case aO => exact (sqq HO130.out))
              (case aS => exact (below_size sqh))
              (case aL => have := LMc2.out; omega)
              intro v132 w13 ho hb hg hat
              rw [← Ny131.out] at ho
              replace BK126 := Aside0.mk (blk_grown (bo BK126) hg (Kd.R_ne HO130.out BK126.out (by decide)))
              replace BK127 := Aside0.mk (blk_grown (bo BK127) hg (Kd.R_ne HO130.out BK127.out (by decide)))
              replace HO142 := Aside0.mk (Kd.R_after (ok := (fun _ => True)) (by (with_reducible repeat (first | apply Kd.R_alloc | apply Kd.R_drewN | apply Kd.R_drew)); exact Kd.R_mono HO142.out (fun _ hk => ⟨trivial, hk⟩)) hg hat)
              replace HB := Aside0.mk (hb)
              have HO133 := Aside0.mk (ho)
              clear HO130; clear ho hb hg hat
              refine hK.out _ _ (sc4 BK126.out) (fun hHeld => ?_)
              clear hK K; refine no 8 ?_
              exact norm_ z94_0 (hJ2_5_10 (v129, v132, v141) _ ⟨hHeld, (sqq HO133.out), z94_1, (sqb BK126.out), (sqb BK127.out), sqh⟩)
             ·skip
              refine Kd.R_lit_step (Kd.int .i64) _ 3 ?hg (N := 9) ?hd (xs := ([] : List Int)) (inner := []) (ok := fun _ => True) (okp := fun _ => True) ?hr ?hp (fun _ hk => hk) trivial (Below.refl _ _) (Nat.le_refl _) (by simp) ?_; (case hd => rfl); (case hg => rfl); (case hr => first | (go_simp; done) | (go_simp; rfl)); (case hp => exact (Reps.none _ _))
              intro v135 w13 ho14 hb hg_ hnew_
              clear hg_ hnew_
              (first | rw [← Ny134.out] at ho14 | (simp only [Int.reduceToNat] at ho14; rw [← Ny134.out] at ho14))
              have HO136 := Aside0.mk (Kd.R_lower (Kd.R_new' (Kd.R_new' ho14 (Kd.R_lt (sqq HO130.out))) (Kd.R_lt (sqq HO142.out))) (below_size sqh))
              replace HO130 := Aside0.mk (Kd.R_elder' (sqq HO130.out) (Kd.R_base ho14) hb)
              replace HO142 := Aside0.mk (Kd.R_elder' (sqq HO142.out) (Kd.R_base ho14) hb)
              replace BK126 := Aside0.mk (blk_below (bo BK126) hb)
              replace BK127 := Aside0.mk (blk_below (bo BK127) hb)
              replace HB := Aside0.mk (below_step sqh hb)
              clear hb ho14
              refine hK.out _ _ (sc4 BK126.out) (fun hHeld => ?_)
              clear hK K; refine no 9 ?_
              exact norm_ z94_0 (hJ2_6_10 (v129, v135, v141) _ ⟨hHeld, (by (with_reducible repeat (first | apply Kd.R_alloc | apply Kd.R_drewN | apply Kd.R_drew)); exact Kd.R_mono HO130.out (fun _ hk => ⟨hk.2, hk.1⟩)), (by (with_reducible repeat (first | apply Kd.R_alloc | apply Kd.R_drewN | apply Kd.R_drew)); exact Kd.R_mono HO136.out (fun _ hk => ⟨hk.1.2, hk.2⟩)), (sqq HO142.out), (sqb BK126.out), (sqb BK127.out), sqh⟩)
           ·skip
            rintro ⟨v129, v135⟩ w12 ⟨hS_, h0_, h1_, h2_, h3_, h4_⟩
            have n0_ : Aside0 (Kd.R (Kd.int .i64) 3 w12 w.heap.size (fun k_ => some k_ ≠ (v135 : Value).ownBlock) v129 y128) := ⟨h0_⟩
            have n1_ : Aside0 (Kd.R (Kd.int .i64) 3 w12 w.heap.size (fun k_ => some k_ ≠ (v129 : Value).ownBlock) v135 y134) := ⟨h1_⟩
            have n2_ : Aside0 (w12.heap[gb126]? = some (.cells #[.int .i64 a0_0, .slice A0_1 l0_1.length c0_1, .slice A0_2 l0_2.length c0_2, .slice A0_3 l0_3.length c0_3] 33 (0, 0))) := ⟨h2_⟩
            have n3_ : Aside0 (w12.heap[gb127]? = some (.cells #[.int .i64 0, .slice none 0 0, .slice none 0 0, .slice none 0 0] 33 (0, 0))) := ⟨h3_⟩
            have n4_ : Aside0 (Below w.heap.size w w12) := ⟨h4_⟩
            clear BK126; clear BK127; clear HB; clear h0_ h1_ h2_ h3_ h4_
            have HO130 := n0_
            have HO136 := n1_
            have BK126 := n2_
            have BK127 := n3_
            have HB := n4_
            clear n0_ n1_ n2_ n3_ n4_
            have hHeld : w12.cell? ⟨gb126, 0, none⟩ = some (.int .i64 a0_0) ∧ w12.cell? ⟨gb126, 1, none⟩ = some (.slice A0_1 l0_1.length c0_1) ∧ w12.cell? ⟨gb126, 2, none⟩ = some (.slice A0_2 l0_2.length c0_2) ∧ w12.cell? ⟨gb126, 3, none⟩ = some (.slice A0_3 l0_3.length c0_3) := hS_
            refine norm_ (a' := ?_) ?_ ?_
            rotate_left
            ·simp only [putAll, Act.put, List.setIfInBounds_toArray, List.set_cons_zero, List.set_cons_succ]
             rfl
            refine two_ (i := 5) (j := 10) (Ni := some 8) (Nj := some 13) #[true, true, true, true, true, true, true, true, true, false, false, true, true, false, false, false] #[true, true, true, true, true, false, true, true, true, false, true, true, true, false, false, false] rfl rfl rfl rfl (two_of HT_.out sqk) (by decide) (by decide) (fun K hK => ?_) (fun K hK => ?_)
            ·skip
             refine Kd.R_append_rows_step (Kd.int .i64) (w0 := w) w.heap.size (by rfl) (.tmp 5) (.tmp 7) 28 3 (.int .i64 0) 8 rfl Try.underlying28 info3 rfl (by decide) (by omega) v129 y128 l0_1 _ _ _ (fun k_ => some k_ ≠ (v135 : Value).ownBlock) (fun _ => False) rfl rfl ?aO ?aR (fun _ _ h => h) (fun _ h => h.elim) ?aF ?aB ?aS ?aL ?_
             (case aR => repeat (first | exact (Kd.C_below HR0_1.out HB.out) | (with_reducible refine Kd.C_alloc ?_ _) | (with_reducible refine Kd.C_drewN ?_ _) | (with_reducible refine Kd.C_drew ?_)))
             (case aB => exact sqh)
             (case aF => exact (fun k_ hk => Kd.fresh' (Kd.R_lt (sqq HO136.out)) k_ hk))
             (case aO => exact (sqq HO130.out))
             (case aS => exact (below_size sqh))
             (case aL => have := LMc2.out; omega)
             intro v132 w13 ho hb hg hat
             rw [← Ny131.out] at ho
             replace BK126 := Aside0.mk (blk_grown (bo BK126) hg (Kd.R_ne HO130.out BK126.out (by decide)))
             replace BK127 := Aside0.mk (blk_grown (bo BK127) hg (Kd.R_ne HO130.out BK127.out (by decide)))
             replace HO136 := Aside0.mk (Kd.R_after (ok := (fun _ => True)) (by (with_reducible repeat (first | apply Kd.R_alloc | apply Kd.R_drewN | apply Kd.R_drew)); exact Kd.R_mono HO136.out (fun _ hk => ⟨trivial, hk⟩)) hg hat)
             replace HB := Aside0.mk (hb)
             have HO133 := Aside0.mk (ho)
             clear HO130; clear ho hb hg hat
             refine hK.out _ _ (sc4 BK126.out) (fun hHeld => ?_)
             clear hK K; refine no 8 ?_
             exact norm_ z94_0 (hJ2_5_6 (v129, v132, v135) _ ⟨hHeld, (sqq HO133.out), z94_2, (sqb BK126.out), (sqb BK127.out), sqh⟩)
            ·skip
             refine Kd.R_lit_step (Kd.int .i64) _ 3 ?hg (N := 13) ?hd (xs := ([] : List Int)) (inner := []) (ok := fun _ => True) (okp := fun _ => True) ?hr ?hp (fun _ hk => hk) trivial (Below.refl _ _) (Nat.le_refl _) (by simp) ?_; (case hd => rfl); (case hg => rfl); (case hr => first | (go_simp; done) | (go_simp; rfl)); (case hp => exact (Reps.none _ _))
             intro v141 w13 ho14 hb hg_ hnew_
             clear hg_ hnew_
             (first | rw [← Ny140.out] at ho14 | (simp only [Int.reduceToNat] at ho14; rw [← Ny140.out] at ho14))
             have HO142 := Aside0.mk (Kd.R_lower (Kd.R_new' (Kd.R_new' ho14 (Kd.R_lt (sqq HO130.out))) (Kd.R_lt (sqq HO136.out))) (below_size sqh))
             replace HO130 := Aside0.mk (Kd.R_elder' (sqq HO130.out) (Kd.R_base ho14) hb)
             replace HO136 := Aside0.mk (Kd.R_elder' (sqq HO136.out) (Kd.R_base ho14) hb)
             replace BK126 := Aside0.mk (blk_below (bo BK126) hb)
             replace BK127 := Aside0.mk (blk_below (bo BK127) hb)
             replace HB := Aside0.mk (below_step sqh hb)
             clear hb ho14
             refine hK.out _ _ (sc4 BK126.out) (fun hHeld => ?_)
             clear hK K; refine no 13 ?_
             exact norm_ z94_0 (hJ2_6_10 (v129, v135, v141) _ ⟨hHeld, (sqq HO130.out), (sqq HO136.out), z94_4, (sqb BK126.out), (sqb BK127.out), sqh⟩)
          ·skip
           rintro ⟨v129, v132⟩ w11 ⟨hS_, h0_, h1_, h2_, h3_⟩
           have n0_ : Aside0 (Kd.R (Kd.int .i64) 3 w11 w.heap.size (fun _ => True) v132 y131) := ⟨h0_⟩
           have n1_ : Aside0 (w11.heap[gb126]? = some (.cells #[.int .i64 a0_0, .slice A0_1 l0_1.length c0_1, .slice A0_2 l0_2.length c0_2, .slice A0_3 l0_3.length c0_3] 33 (0, 0))) := ⟨h1_⟩
           have n2_ : Aside0 (w11.heap[gb127]? = some (.cells #[.int .i64 0, .slice none 0 0, .slice none 0 0, .slice none 0 0] 33 (0, 0))) := ⟨h2_⟩
           have n3_ : Aside0 (Below w.heap.size w w11) := ⟨h3_⟩
           clear BK126; clear BK127; clear HB; clear h0_ h1_ h2_ h3_
           have HO133 := n0_
           have BK126 := n1_
           have BK127 := n2_
           have HB := n3_
           clear n0_ n1_ n2_ n3_
           have hHeld : w11.cell? ⟨gb126, 0, none⟩ = some (.int .i64 a0_0) ∧ w11.cell? ⟨gb126, 1, none⟩ = some (.slice A0_1 l0_1.length c0_1) ∧ w11.cell? ⟨gb126, 2, none⟩ = some (.slice A0_2 l0_2.length c0_2) ∧ w11.cell? ⟨gb126, 3, none⟩ = some (.slice A0_3 l0_3.length c0_3) := hS_
           refine norm_ (a' := ?_) ?_ ?_
           rotate_left
           ·simp only [putAll, Act.put, List.setIfInBounds_toArray, List.set_cons_zero, List.set_cons_succ]
            rfl
           refine two_ (i := 6) (j := 10) (Ni := some 9) (Nj := some 13) #[true, true, true, true, true, true, true, true, true, false, false, true, true, false, false, false] #[true, true, true, true, true, true, false, true, true, false, true, true, true, false, false, false] rfl rfl rfl rfl (two_of HT_.out sqk) (by decide) (by decide) (fun K hK => ?_) (fun K hK => ?_)
           ·skip
            refine Kd.R_lit_step (Kd.int .i64) _ 3 ?hg (N := 9) ?hd (xs := ([] : List Int)) (inner := []) (ok := fun _ => True) (okp := fun _ => True) ?hr ?hp (fun _ hk => hk) trivial (Below.refl _ _) (Nat.le_refl _) (by simp) ?_; (case hd => rfl); (case hg => rfl); (case hr => first | (go_simp; done) | (go_simp; rfl)); (case hp => exact (Reps.none _ _))
            intro v135 w12 ho13 hb hg_ hnew_
            clear hg_ hnew_
            (first | rw [← Ny134.out] at ho13 | (simp only [Int.reduceToNat] at ho13; rw [← Ny134.out] at ho13))
            have HO136 := Aside0.mk (Kd.R_lower (Kd.R_new' ho13 (Kd.R_lt (sqq HO133.out))) (below_size sqh))
            replace HO133 := Aside0.mk (Kd.R_elder' (sqq HO133.out) (Kd.R_base ho13) hb)
            replace BK126 := Aside0.mk (blk_below (bo BK126) hb)
            replace BK127 := Aside0.mk (blk_below (bo BK127) hb)
            replace HB := Aside0.mk (below_step sqh hb)
            clear hb ho13
            refine hK.out _ _ (sc4 BK126.out) (fun hHeld => ?_)
            clear hK K; refine no 9 ?_
            exact norm_ z94_0 (hJ2_5_6 (v129, v132, v135) _ ⟨hHeld, z94_8, z94_2, (sqb BK126.out), (sqb BK127.out), sqh⟩)
           ·skip
            refine Kd.R_lit_step (Kd.int .i64) _ 3 ?hg (N := 13) ?hd (xs := ([] : List Int)) (inner := []) (ok := fun _ => True) (okp := fun _ => True) ?hr ?hp (fun _ hk => hk) trivial (Below.refl _ _) (Nat.le_refl _) (by simp) ?_; (case hd => rfl); (case hg => rfl); (case hr => first | (go_simp; done) | (go_simp; rfl)); (case hp => exact (Reps.none _ _))
            intro v141 w12 ho13 hb hg_ hnew_
            clear hg_ hnew_
            (first | rw [← Ny140.out] at ho13 | (simp only [Int.reduceToNat] at ho13; rw [← Ny140.out] at ho13))
            have HO142 := Aside0.mk (Kd.R_lower (Kd.R_new' ho13 (Kd.R_lt (sqq HO133.out))) (below_size sqh))
            replace HO133 := Aside0.mk (Kd.R_elder' (sqq HO133.out) (Kd.R_base ho13) hb)
            replace BK126 := Aside0.mk (blk_below (bo BK126) hb)
            replace BK127 := Aside0.mk (blk_below (bo BK127) hb)
            replace HB := Aside0.mk (below_step sqh hb)
            clear hb ho13
            refine hK.out _ _ (sc4 BK126.out) (fun hHeld => ?_)
            clear hK K; refine no 13 ?_
            exact norm_ z94_0 (hJ2_5_10 (v129, v132, v141) _ ⟨hHeld, z94_8, z94_1, (sqb BK126.out), (sqb BK127.out), sqh⟩)
         ·skip
          rintro ⟨v129, v135, v141⟩ w14 ⟨hS_, h0_, h1_, h2_, h3_, h4_, h5_⟩
          have n0_ : Aside0 (Kd.R (Kd.int .i64) 3 w14 w.heap.size (fun k_ => some k_ ≠ (v135 : Value).ownBlock ∧ some k_ ≠ (v141 : Value).ownBlock) v129 y128) := ⟨h0_⟩
          have n1_ : Aside0 (Kd.R (Kd.int .i64) 3 w14 w.heap.size (fun k_ => some k_ ≠ (v129 : Value).ownBlock ∧ some k_ ≠ (v141 : Value).ownBlock) v135 y134) := ⟨h1_⟩
          have n2_ : Aside0 (Kd.R (Kd.int .i64) 3 w14 w.heap.size (fun k_ => some k_ ≠ (v129 : Value).ownBlock ∧ some k_ ≠ (v135 : Value).ownBlock) v141 y140) := ⟨h2_⟩
          have n3_ : Aside0 (w14.heap[gb126]? = some (.cells #[.int .i64 a0_0, .slice A0_1 l0_1.length c0_1, .slice A0_2 l0_2.length c0_2, .slice A0_3 l0_3.length c0_3] 33 (0, 0))) := ⟨h3_⟩
          have n4_ : Aside0 (w14.heap[gb127]? = some (.cells #[.int .i64 0, .slice none 0 0, .slice none 0 0, .slice none 0 0] 33 (0, 0))) := ⟨h4_⟩
          have n5_ : Aside0 (Below w.heap.size w w14) := ⟨h5_⟩
          clear BK126; clear BK127; clear HB; clear h0_ h1_ h2_ h3_ h4_ h5_
          have HO130 := n0_
          have HO136 := n1_
          have HO142 := n2_
          have BK126 := n3_
          have BK127 := n4_
          have HB := n5_
          clear n0_ n1_ n2_ n3_ n4_ n5_
          have hHeld : w14.cell? ⟨gb126, 0, none⟩ = some (.int .i64 a0_0) ∧ w14.cell? ⟨gb126, 1, none⟩ = some (.slice A0_1 l0_1.length c0_1) ∧ w14.cell? ⟨gb126, 2, none⟩ = some (.slice A0_2 l0_2.length c0_2) ∧ w14.cell? ⟨gb126, 3, none⟩ = some (.slice A0_3 l0_3.length c0_3) := hS_
          refine norm_ (a' := ?_) ?_ ?_
          rotate_left
          ·simp only [putAll, Act.put, List.setIfInBounds_toArray, List.set_cons_zero, List.set_cons_succ]
           rfl
          refine on 5 (some 8) (fun K hK => ?_)
          refine Kd.R_append_rows_step (Kd.int .i64) (w0 := w) w.heap.size (by rfl) (.tmp 5) (.tmp 7) 28 3 (.int .i64 0) 8 rfl Try.underlying28 info3 rfl (by decide) (by omega) v129 y128 l0_1 _ _ _ (fun k_ => some k_ ≠ (v135 : Value).ownBlock ∧ some k_ ≠ (v141 : Value).ownBlock) (fun _ => False) rfl rfl ?aO ?aR (fun _ _ h => h) (fun _ h => h.elim) ?aF ?aB ?aS ?aL ?_
          (case aR => repeat (first | exact (Kd.C_below HR0_1.out HB.out) | (with_reducible refine Kd.C_alloc ?_ _) | (with_reducible refine Kd.C_drewN ?_ _) | (with_reducible refine Kd.C_drew ?_)))
          (case aB => exact sqh)
          (case aF => exact (fun k_ hk => ⟨Kd.fresh' (Kd.R_lt (sqq HO136.out)) k_ hk, Kd.fresh' (Kd.R_lt (sqq HO142.out)) k_ hk⟩))
          (case aO => exact (sqq HO130.out))
          (case aS => exact (below_size sqh))
          (case aL => have := LMc2.out; omega)
          intro v132 w15 ho hb hg hat
          rw [← Ny131.out] at ho
          replace BK126 := Aside0.mk (blk_grown (bo BK126) hg (Kd.R_ne HO130.out BK126.out (by decide)))
          replace BK127 := Aside0.mk (blk_grown (bo BK127) hg (Kd.R_ne HO130.out BK127.out (by decide)))
          replace HO136 := Aside0.mk (Kd.R_after (ok := (fun k_ => some k_ ≠ (v141 : Value).ownBlock)) z94_6 hg hat)
          replace HO142 := Aside0.mk (Kd.R_after (ok := (fun k_ => some k_ ≠ (v135 : Value).ownBlock)) z94_5 hg hat)
          replace HB := Aside0.mk (hb)
          have HO133 := Aside0.mk (ho)
          clear HO130; clear ho hb hg hat
          refine hK.out _ _ (sc4 BK126.out) (fun hHeld => ?_)
          clear hK K; refine no 8 ?_
          exact norm_ z94_0 (hJ2_5_6_10 (v129, v132, v135, v141) _ ⟨hHeld, (sqq HO133.out), z94_6, z94_5, (sqb BK126.out), (sqb BK127.out), sqh⟩)
        ·skip
         rintro ⟨v129, v132, v141⟩ w13 ⟨hS_, h0_, h1_, h2_, h3_, h4_⟩
         have n0_ : Aside0 (Kd.R (Kd.int .i64) 3 w13 w.heap.size (fun k_ => some k_ ≠ (v141 : Value).ownBlock) v132 y131) := ⟨h0_⟩
         have n1_ : Aside0 (Kd.R (Kd.int .i64) 3 w13 w.heap.size (fun k_ => some k_ ≠ (v132 : Value).ownBlock) v141 y140) := ⟨h1_⟩
         have n2_ : Aside0 (w13.heap[gb126]? = some (.cells #[.int .i64 a0_0, .slice A0_1 l0_1.length c0_1, .slice A0_2 l0_2.length c0_2, .slice A0_3 l0_3.length c0_3] 33 (0, 0))) := ⟨h2_⟩
         have n3_ : Aside0 (w13.heap[gb127]? = some (.cells #[.int .i64 0, .slice none 0 0, .slice none 0 0, .slice none 0 0] 33 (0, 0))) := ⟨h3_⟩
         have n4_ : Aside0 (Below w.heap.size w w13) := ⟨h4_⟩
         clear BK126; clear BK127; clear HB; clear h0_ h1_ h2_ h3_ h4_
         have HO133 := n0_
         have HO142 := n1_
         have BK126 := n2_
         have BK127 := n3_
         have HB := n4_
         clear n0_ n1_ n2_ n3_ n4_
         have hHeld : w13.cell? ⟨gb126, 0, none⟩ = some (.int .i64 a0_0) ∧ w13.cell? ⟨gb126, 1, none⟩ = some (.slice A0_1 l0_1.length c0_1) ∧ w13.cell? ⟨gb126, 2, none⟩ = some (.slice A0_2 l0_2.length c0_2) ∧ w13.cell? ⟨gb126, 3, none⟩ = some (.slice A0_3 l0_3.length c0_3) := hS_
         refine norm_ (a' := ?_) ?_ ?_
         rotate_left
         ·simp only [putAll, Act.put, List.setIfInBounds_toArray, List.set_cons_zero, List.set_cons_succ]
          rfl
         refine on 6 (some 9) (fun K hK => ?_)
         refine Kd.R_lit_step (Kd.int .i64) _ 3 ?hg (N := 9) ?hd (xs := ([] : List Int)) (inner := []) (ok := fun _ => True) (okp := fun _ => True) ?hr ?hp (fun _ hk => hk) trivial (Below.refl _ _) (Nat.le_refl _) (by simp) ?_; (case hd => rfl); (case hg => rfl); (case hr => first | (go_simp; done) | (go_simp; rfl)); (case hp => exact (Reps.none _ _))
         intro v135 w14 ho15 hb hg_ hnew_
         clear hg_ hnew_
         (first | rw [← Ny134.out] at ho15 | (simp only [Int.reduceToNat] at ho15; rw [← Ny134.out] at ho15))
         have HO136 := Aside0.mk (Kd.R_lower (Kd.R_new' (Kd.R_new' ho15 (Kd.R_lt (sqq HO133.out))) (Kd.R_lt (sqq HO142.out))) (below_size sqh))
         replace HO133 := Aside0.mk (Kd.R_elder' (sqq HO133.out) (Kd.R_base ho15) hb)
         replace HO142 := Aside0.mk (Kd.R_elder' (sqq HO142.out) (Kd.R_base ho15) hb)
         replace BK126 := Aside0.mk (blk_below (bo BK126) hb)
         replace BK127 := Aside0.mk (blk_below (bo BK127) hb)
         replace HB := Aside0.mk (below_step sqh hb)
         clear hb ho15
         refine hK.out _ _ (sc4 BK126.out) (fun hHeld => ?_)
         clear hK K; refine no 9 ?_
         exact norm_ z94_0 (hJ2_5_6_10 (v129, v132, v135, v141) _ ⟨hHeld, z94_7, (by (with_reducible repeat (first | apply Kd.R_alloc | apply Kd.R_drewN | apply Kd.R_drew)); exact Kd.R_mono HO136.out (fun _ hk => ⟨hk.1.2, hk.2⟩)), (sqq HO142.out), (sqb BK126.out), (sqb BK127.out), sqh⟩)
       ·skip
        rintro ⟨v129, v132, v135⟩ w13 ⟨hS_, h0_, h1_, h2_, h3_, h4_⟩
        have n0_ : Aside0 (Kd.R (Kd.int .i64) 3 w13 w.heap.size (fun k_ => some k_ ≠ (v135 : Value).ownBlock) v132 y131) := ⟨h0_⟩
        have n1_ : Aside0 (Kd.R (Kd.int .i64) 3 w13 w.heap.size (fun k_ => some k_ ≠ (v132 : Value).ownBlock) v135 y134) := ⟨h1_⟩
        have n2_ : Aside0 (w13.heap[gb126]? = some (.cells #[.int .i64 a0_0, .slice A0_1 l0_1.length c0_1, .slice A0_2 l0_2.length c0_2, .slice A0_3 l0_3.length c0_3] 33 (0, 0))) := ⟨h2_⟩
        have n3_ : Aside0 (w13.heap[gb127]? = some (.cells #[.int .i64 0, .slice none 0 0, .slice none 0 0, .slice none 0 0] 33 (0, 0))) := ⟨h3_⟩
        have n4_ : Aside0 (Below w.heap.size w w13) := ⟨h4_⟩
        clear BK126; clear BK127; clear HB; clear h0_ h1_ h2_ h3_ h4_
        have HO133 := n0_
        have HO136 := n1_
        have BK126 := n2_
        have BK127 := n3_
        have HB := n4_
        clear n0_ n1_ n2_ n3_ n4_
        have hHeld : w13.cell? ⟨gb126, 0, none⟩ = some (.int .i64 a0_0) ∧ w13.cell? ⟨gb126, 1, none⟩ = some (.slice A0_1 l0_1.length c0_1) ∧ w13.cell? ⟨gb126, 2, none⟩ = some (.slice A0_2 l0_2.length c0_2) ∧ w13.cell? ⟨gb126, 3, none⟩ = some (.slice A0_3 l0_3.length c0_3) := hS_
        refine norm_ (a' := ?_) ?_ ?_
        rotate_left
        ·simp only [putAll, Act.put, List.setIfInBounds_toArray, List.set_cons_zero, List.set_cons_succ]
         rfl
        refine two_ (i := 9) (j := 10) (Ni := some 12) (Nj := some 13) #[true, true, true, true, true, true, true, true, true, true, false, true, true, false, false, false] #[true, true, true, true, true, true, true, true, true, false, true, true, true, false, false, false] rfl rfl rfl rfl (two_of HT_.out sqk) (by decide) (by decide) (fun K hK => ?_) (fun K hK => ?_)
        ·skip
         refine Kd.R_append_rows_step (Kd.int .i64) (w0 := w) w.heap.size (by rfl) (.tmp 9) (.tmp 11) 28 3 (.int .i64 0) 8 rfl Try.underlying28 info3 rfl (by decide) (by omega) v135 y134 l0_2 _ _ _ (fun k_ => some k_ ≠ (v132 : Value).ownBlock) (fun _ => False) rfl rfl ?aO ?aR (fun _ _ h => h) (fun _ h => h.elim) ?aF ?aB ?aS ?aL ?_
         (case aR => repeat (first | exact (Kd.C_below HR0_2.out HB.out) | (with_reducible refine Kd.C_alloc ?_ _) | (with_reducible refine Kd.C_drewN ?_ _) | (with_reducible refine Kd.C_drew ?_)))
         (case aB => exact sqh)
         (case aF => exact (fun k_ hk => Kd.fresh' (Kd.R_lt (sqq HO133.out)) k_ hk))
         (case aO => exact (sqq HO136.out))
         (case aS => exact (below_size sqh))
         (case aL => have := LMc3.out; omega)
         intro v138 w14 ho hb hg hat
         rw [← Ny137.out] at ho
         replace BK126 := Aside0.mk (blk_grown (bo BK126) hg (Kd.R_ne HO136.out BK126.out (by decide)))
         replace BK127 := Aside0.mk (blk_grown (bo BK127) hg (Kd.R_ne HO136.out BK127.out (by decide)))
         replace HO133 := Aside0.mk (Kd.R_after (ok := (fun _ => True)) (by (with_reducible repeat (first | apply Kd.R_alloc | apply Kd.R_drewN | apply Kd.R_drew)); exact Kd.R_mono HO133.out (fun _ hk => ⟨trivial, hk⟩)) hg hat)
         replace HB := Aside0.mk (hb)
         have HO139 := Aside0.mk (ho)
         clear HO136; clear ho hb hg hat
         refine hK.out _ _ (sc4 BK126.out) (fun hHeld => ?_)
         clear hK K; refine no 12 ?_
         exact norm_ z94_0 (hJ2_5_6_9 (v129, v132, v135, v138) _ ⟨hHeld, z94_8, (sqq HO139.out), (sqb BK126.out), (sqb BK127.out), sqh⟩)
        ·skip
         refine Kd.R_lit_step (Kd.int .i64) _ 3 ?hg (N := 13) ?hd (xs := ([] : List Int)) (inner := []) (ok := fun _ => True) (okp := fun _ => True) ?hr ?hp (fun _ hk => hk) trivial (Below.refl _ _) (Nat.le_refl _) (by simp) ?_; (case hd => rfl); (case hg => rfl); (case hr => first | (go_simp; done) | (go_simp; rfl)); (case hp => exact (Reps.none _ _))
         intro v141 w14 ho15 hb hg_ hnew_
         clear hg_ hnew_
         (first | rw [← Ny140.out] at ho15 | (simp only [Int.reduceToNat] at ho15; rw [← Ny140.out] at ho15))
         have HO142 := Aside0.mk (Kd.R_lower (Kd.R_new' (Kd.R_new' ho15 (Kd.R_lt (sqq HO133.out))) (Kd.R_lt (sqq HO136.out))) (below_size sqh))
         replace HO133 := Aside0.mk (Kd.R_elder' (sqq HO133.out) (Kd.R_base ho15) hb)
         replace HO136 := Aside0.mk (Kd.R_elder' (sqq HO136.out) (Kd.R_base ho15) hb)
         replace BK126 := Aside0.mk (blk_below (bo BK126) hb)
         replace BK127 := Aside0.mk (blk_below (bo BK127) hb)
         replace HB := Aside0.mk (below_step sqh hb)
         clear hb ho15
         refine hK.out _ _ (sc4 BK126.out) (fun hHeld => ?_)
         clear hK K; refine no 13 ?_
         exact norm_ z94_0 (hJ2_5_6_10 (v129, v132, v135, v141) _ ⟨hHeld, (sqq HO133.out), (sqq HO136.out), z94_4, (sqb BK126.out), (sqb BK127.out), sqh⟩)
      ·skip
       rintro ⟨v129, v132, v135, v141⟩ w15 ⟨hS_, h0_, h1_, h2_, h3_, h4_, h5_⟩
       have n0_ : Aside0 (Kd.R (Kd.int .i64) 3 w15 w.heap.size (fun k_ => some k_ ≠ (v135 : Value).ownBlock ∧ some k_ ≠ (v141 : Value).ownBlock) v132 y131) := ⟨h0_⟩
       have n1_ : Aside0 (Kd.R (Kd.int .i64) 3 w15 w.heap.size (fun k_ => some k_ ≠ (v132 : Value).ownBlock ∧ some k_ ≠ (v141 : Value).ownBlock) v135 y134) := ⟨h1_⟩
       have n2_ : Aside0 (Kd.R (Kd.int .i64) 3 w15 w.heap.size (fun k_ => some k_ ≠ (v132 : Value).ownBlock ∧ some k_ ≠ (v135 : Value).ownBlock) v141 y140) := ⟨h2_⟩
       have n3_ : Aside0 (w15.heap[gb126]? = some (.cells #[.int .i64 a0_0, .slice A0_1 l0_1.length c0_1, .slice A0_2 l0_2.length c0_2, .slice A0_3 l0_3.length c0_3] 33 (0, 0))) := ⟨h3_⟩
       have n4_ : Aside0 (w15.heap[gb127]? = some (.cells #[.int .i64 0, .slice none 0 0, .slice none 0 0, .slice none 0 0] 33 (0, 0))) := ⟨h4_⟩
       have n5_ : Aside0 (Below w.heap.size w w15) := ⟨h5_⟩
       clear BK126; clear BK127; clear HB; clear h0_ h1_ h2_ h3_ h4_ h5_
       have HO133 := n0_
       have HO136 := n1_
       have HO142 := n2_
       have BK126 := n3_
       have BK127 := n4_
       have HB := n5_
       clear n0_ n1_ n2_ n3_ n4_ n5_
       have hHeld : w15.cell? ⟨gb126, 0, none⟩ = some (.int .i64 a0_0) ∧ w15.cell? ⟨gb126, 1, none⟩ = some (.slice A0_1 l0_1.length c0_1) ∧ w15.cell? ⟨gb126, 2, none⟩ = some (.slice A0_2 l0_2.length c0_2) ∧ w15.cell? ⟨gb126, 3, none⟩ = some (.slice A0_3 l0_3.length c0_3) := hS_
       refine norm_ (a' := ?_) ?_ ?_
       rotate_left
       ·simp only [putAll, Act.put, List.setIfInBounds_toArray, List.set_cons_zero, List.set_cons_succ]
        rfl
       refine on 9 (some 12) (fun K hK => ?_)
       refine Kd.R_append_rows_step (Kd.int .i64) (w0 := w) w.heap.size (by rfl) (.tmp 9) (.tmp 11) 28 3 (.int .i64 0) 8 rfl Try.underlying28 info3 rfl (by decide) (by omega) v135 y134 l0_2 _ _ _ (fun k_ => some k_ ≠ (v132 : Value).ownBlock ∧ some k_ ≠ (v141 : Value).ownBlock) (fun _ => False) rfl rfl ?aO ?aR (fun _ _ h => h) (fun _ h => h.elim) ?aF ?aB ?aS ?aL ?_
       (case aR => repeat (first | exact (Kd.C_below HR0_2.out HB.out) | (with_reducible refine Kd.C_alloc ?_ _) | (with_reducible refine Kd.C_drewN ?_ _) | (with_reducible refine Kd.C_drew ?_)))
       (case aB => exact sqh)
       (case aF => exact (fun k_ hk => ⟨Kd.fresh' (Kd.R_lt (sqq HO133.out)) k_ hk, Kd.fresh' (Kd.R_lt (sqq HO142.out)) k_ hk⟩))
       (case aO => exact (sqq HO136.out))
       (case aS => exact (below_size sqh))
       (case aL => have := LMc3.out; omega)
       intro v138 w16 ho hb hg hat
       rw [← Ny137.out] at ho
       replace BK126 := Aside0.mk (blk_grown (bo BK126) hg (Kd.R_ne HO136.out BK126.out (by decide)))
       replace BK127 := Aside0.mk (blk_grown (bo BK127) hg (Kd.R_ne HO136.out BK127.out (by decide)))
       replace HO133 := Aside0.mk (Kd.R_after (ok := (fun k_ => some k_ ≠ (v141 : Value).ownBlock)) z94_7 hg hat)
       replace HO142 := Aside0.mk (Kd.R_after (ok := (fun k_ => some k_ ≠ (v132 : Value).ownBlock)) (sqq HO142.out) hg hat)
       replace HB := Aside0.mk (hb)
       have HO139 := Aside0.mk (ho)
       clear HO136; clear ho hb hg hat
       refine hK.out _ _ (sc4 BK126.out) (fun hHeld => ?_)
       clear hK K; refine no 12 ?_
       exact norm_ z94_0 (hJ2_5_6_9_10 (v129, v132, v135, v138, v141) _ ⟨hHeld, z94_7, (sqq HO139.out), (sqq HO142.out), (sqb BK126.out), (sqb BK127.out), sqh⟩)
     ·skip
      rintro ⟨v129, v132, v135, v138⟩ w14 ⟨hS_, h0_, h1_, h2_, h3_, h4_⟩
      have n0_ : Aside0 (Kd.R (Kd.int .i64) 3 w14 w.heap.size (fun k_ => some k_ ≠ (v138 : Value).ownBlock) v132 y131) := ⟨h0_⟩
      have n1_ : Aside0 (Kd.R (Kd.int .i64) 3 w14 w.heap.size (fun k_ => some k_ ≠ (v132 : Value).ownBlock) v138 y137) := ⟨h1_⟩
      have n2_ : Aside0 (w14.heap[gb126]? = some (.cells #[.int .i64 a0_0, .slice A0_1 l0_1.length c0_1, .slice A0_2 l0_2.length c0_2, .slice A0_3 l0_3.length c0_3] 33 (0, 0))) := ⟨h2_⟩
      have n3_ : Aside0 (w14.heap[gb127]? = some (.cells #[.int .i64 0, .slice none 0 0, .slice none 0 0, .slice none 0 0] 33 (0, 0))) := ⟨h3_⟩
      have n4_ : Aside0 (Below w.heap.size w w14) := ⟨h4_⟩
      clear BK126; clear BK127; clear HB; clear h0_ h1_ h2_ h3_ h4_
      have HO133 := n0_
      have HO139 := n1_
      have BK126 := n2_
      have BK127 := n3_
      have HB := n4_
      clear n0_ n1_ n2_ n3_ n4_
      have hHeld : w14.cell? ⟨gb126, 0, none⟩ = some (.int .i64 a0_0) ∧ w14.cell? ⟨gb126, 1, none⟩ = some (.slice A0_1 l0_1.length c0_1) ∧ w14.cell? ⟨gb126, 2, none⟩ = some (.slice A0_2 l0_2.length c0_2) ∧ w14.cell? ⟨gb126, 3, none⟩ = some (.slice A0_3 l0_3.length c0_3) := hS_
      refine norm_ (a' := ?_) ?_ ?_
      rotate_left
      ·simp only [putAll, Act.put, List.setIfInBounds_toArray, List.set_cons_zero, List.set_cons_succ]
       rfl
      refine on 10 (some 13) (fun K hK => ?_)
      refine Kd.R_lit_step (Kd.int .i64) _ 3 ?hg (N := 13) ?hd (xs := ([] : List Int)) (inner := []) (ok := fun _ => True) (okp := fun _ => True) ?hr ?hp (fun _ hk => hk) trivial (Below.refl _ _) (Nat.le_refl _) (by simp) ?_; (case hd => rfl); (case hg => rfl); (case hr => first | (go_simp; done) | (go_simp; rfl)); (case hp => exact (Reps.none _ _))
      intro v141 w15 ho16 hb hg_ hnew_
      clear hg_ hnew_
      (first | rw [← Ny140.out] at ho16 | (simp only [Int.reduceToNat] at ho16; rw [← Ny140.out] at ho16))
      have HO142 := Aside0.mk (Kd.R_lower (Kd.R_new' (Kd.R_new' ho16 (Kd.R_lt (sqq HO133.out))) (Kd.R_lt (sqq HO139.out))) (below_size sqh))
      replace HO133 := Aside0.mk (Kd.R_elder' (sqq HO133.out) (Kd.R_base ho16) hb)
      replace HO139 := Aside0.mk (Kd.R_elder' (sqq HO139.out) (Kd.R_base ho16) hb)
      replace BK126 := Aside0.mk (blk_below (bo BK126) hb)
      replace BK127 := Aside0.mk (blk_below (bo BK127) hb)
      replace HB := Aside0.mk (below_step sqh hb)
      clear hb ho16
      refine hK.out _ _ (sc4 BK126.out) (fun hHeld => ?_)
      clear hK K; refine no 13 ?_
      exact norm_ z94_0 (hJ2_5_6_9_10 (v129, v132, v135, v138, v141) _ ⟨hHeld, (sqq HO133.out), (sqq HO139.out), z94_4, (sqb BK126.out), (sqb BK127.out), sqh⟩)
    rintro ⟨v129, v132, v135, v138, v141⟩ w16 ⟨hS_, h0_, h1_, h2_, h3_, h4_, h5_⟩
    have n0_ : Aside0 (Kd.R (Kd.int .i64) 3 w16 w.heap.size (fun k_ => some k_ ≠ (v138 : Value).ownBlock ∧ some k_ ≠ (v141 : Value).ownBlock) v132 y131) := ⟨h0_⟩
    have n1_ : Aside0 (Kd.R (Kd.int .i64) 3 w16 w.heap.size (fun k_ => some k_ ≠ (v132 : Value).ownBlock ∧ some k_ ≠ (v141 : Value).ownBlock) v138 y137) := ⟨h1_⟩
    have n2_ : Aside0 (Kd.R (Kd.int .i64) 3 w16 w.heap.size (fun k_ => some k_ ≠ (v132 : Value).ownBlock ∧ some k_ ≠ (v138 : Value).ownBlock) v141 y140) := ⟨h2_⟩
    have n3_ : Aside0 (w16.heap[gb126]? = some (.cells #[.int .i64 a0_0, .slice A0_1 l0_1.length c0_1, .slice A0_2 l0_2.length c0_2, .slice A0_3 l0_3.length c0_3] 33 (0, 0))) := ⟨h3_⟩
    have n4_ : Aside0 (w16.heap[gb127]? = some (.cells #[.int .i64 0, .slice none 0 0, .slice none 0 0, .slice none 0 0] 33 (0, 0))) := ⟨h4_⟩
    have n5_ : Aside0 (Below w.heap.size w w16) := ⟨h5_⟩
    clear BK126; clear BK127; clear HB; clear h0_ h1_ h2_ h3_ h4_ h5_
    have HO133 := n0_
    have HO139 := n1_
    have HO142 := n2_
    have BK126 := n3_
    have BK127 := n4_
    have HB := n5_
    clear n0_ n1_ n2_ n3_ n4_ n5_
    have hHeld : w16.cell? ⟨gb126, 0, none⟩ = some (.int .i64 a0_0) ∧ w16.cell? ⟨gb126, 1, none⟩ = some (.slice A0_1 l0_1.length c0_1) ∧ w16.cell? ⟨gb126, 2, none⟩ = some (.slice A0_2 l0_2.length c0_2) ∧ w16.cell? ⟨gb126, 3, none⟩ = some (.slice A0_3 l0_3.length c0_3) := hS_
    refine norm_ (a' := ?_) ?_ ?_
    rotate_left
    ·simp only [putAll, Act.put, List.setIfInBounds_toArray, List.set_cons_zero, List.set_cons_succ]
     rfl
    refine on 13 (some 16) (fun K hK => ?_)
    refine Kd.R_append_rows_step (Kd.int .i64) (w0 := w) w.heap.size (by rfl) (.tmp 13) (.tmp 15) 28 3 (.int .i64 0) 8 rfl Try.underlying28 info3 rfl (by decide) (by omega) v141 y140 l0_3 _ _ _ (fun k_ => some k_ ≠ (v132 : Value).ownBlock ∧ some k_ ≠ (v138 : Value).ownBlock) (fun _ => False) rfl rfl ?aO ?aR (fun _ _ h => h) (fun _ h => h.elim) ?aF ?aB ?aS ?aL ?_
    (case aR => repeat (first | exact (Kd.C_below HR0_3.out HB.out) | (with_reducible refine Kd.C_alloc ?_ _) | (with_reducible refine Kd.C_drewN ?_ _) | (with_reducible refine Kd.C_drew ?_)))
    (case aB => exact sqh)
    (case aF => exact (fun k_ hk => ⟨Kd.fresh' (Kd.R_lt (sqq HO133.out)) k_ hk, Kd.fresh' (Kd.R_lt (sqq HO139.out)) k_ hk⟩))
    (case aO => exact (sqq HO142.out))
    (case aS => exact (below_size sqh))
    (case aL => have := LMc4.out; omega)
    intro v144 w17 ho hb hg hat
    rw [← Ny143.out] at ho
    replace BK126 := Aside0.mk (blk_grown (bo BK126) hg (Kd.R_ne HO142.out BK126.out (by decide)))
    replace BK127 := Aside0.mk (blk_grown (bo BK127) hg (Kd.R_ne HO142.out BK127.out (by decide)))
    replace HO133 := Aside0.mk (Kd.R_after (ok := (fun k_ => some k_ ≠ (v138 : Value).ownBlock)) (sqq HO133.out) hg hat)
    replace HO139 := Aside0.mk (Kd.R_after (ok := (fun k_ => some k_ ≠ (v132 : Value).ownBlock)) (sqq HO139.out) hg hat)
    replace HB := Aside0.mk (hb)
    have HO145 := Aside0.mk (ho)
    clear HO142; clear ho hb hg hat
    obtain ⟨Ao18, co18, eo18⟩ := Kd.R_slice HO145.out
    (first | subst eo18 | (injection eo18 with f1_ f2_ f3_; have f4_ := f1_.symm; have f5_ := f3_.symm; clear f1_ f2_ f3_; subst f4_; subst f5_))
    obtain ⟨Ao19, co19, eo19⟩ := Kd.R_slice HO139.out
    (first | subst eo19 | (injection eo19 with f1_ f2_ f3_; have f4_ := f1_.symm; have f5_ := f3_.symm; clear f1_ f2_ f3_; subst f4_; subst f5_))
    obtain ⟨Ao20, co20, eo20⟩ := Kd.R_slice HO133.out
    (first | subst eo20 | (injection eo20 with f1_ f2_ f3_; have f4_ := f1_.symm; have f5_ := f3_.symm; clear f1_ f2_ f3_; subst f4_; subst f5_))
    refine hK.out _ _ (sc4 BK126.out) (fun hHeld => ?_)
    clear hK K; refine no 16 ?_; refine pu 14 17 ?_
    refine on 15 none (fun K hK => ?_)
    obtain ⟨hs21, hfs21⟩ := sd1 BK127.out
    have hns21_0 := NB126_127.out
    have hms21_0 := NB127_126.out
    have hs22 : w17.cell? ⟨gb127, 1, none⟩ = some (.slice none 0 0) := (blk_cell BK127.out 1).trans rfl
    have hfs22 := blk_frozen BK127.out 1
    have hns22_0 := NB126_127.out
    have hms22_0 := NB127_126.out
    have hs23 : w17.cell? ⟨gb127, 2, none⟩ = some (.slice none 0 0) := (blk_cell BK127.out 2).trans rfl
    have hfs23 := blk_frozen BK127.out 2
    have hns23_0 := NB126_127.out
    have hms23_0 := NB127_126.out
    have hs24 : w17.cell? ⟨gb127, 3, none⟩ = some (.slice none 0 0) := (blk_cell BK127.out 3).trans rfl
    have hfs24 := blk_frozen BK127.out 3
    have hns24_0 := NB126_127.out
    have hms24_0 := NB127_126.out
    refine skip_ (w1 := ?_) (by rfl) rfl ?_ ?_
    rotate_left
    ·go_simp
     rfl
    refine hK.out _ _ ⟨((cell_far (p := ⟨gb127, _, none⟩) NB126_127.out _).trans (((cell_far (p := ⟨gb127, _, none⟩) NB126_127.out _).trans (((cell_far (p := ⟨gb127, _, none⟩) NB126_127.out _).trans (((cell_far (p := ⟨gb127, _, none⟩) NB126_127.out _).trans (hHeld.1)))))))), ((cell_far (p := ⟨gb127, _, none⟩) NB126_127.out _).trans (((cell_far (p := ⟨gb127, _, none⟩) NB126_127.out _).trans (((cell_far (p := ⟨gb127, _, none⟩) NB126_127.out _).trans (((cell_far (p := ⟨gb127, _, none⟩) NB126_127.out _).trans (hHeld.2.1)))))))), ((cell_far (p := ⟨gb127, _, none⟩) NB126_127.out _).trans (((cell_far (p := ⟨gb127, _, none⟩) NB126_127.out _).trans (((cell_far (p := ⟨gb127, _, none⟩) NB126_127.out _).trans (((cell_far (p := ⟨gb127, _, none⟩) NB126_127.out _).trans (hHeld.2.2.1)))))))), ((cell_far (p := ⟨gb127, _, none⟩) NB126_127.out _).trans (((cell_far (p := ⟨gb127, _, none⟩) NB126_127.out _).trans (((cell_far (p := ⟨gb127, _, none⟩) NB126_127.out _).trans (((cell_far (p := ⟨gb127, _, none⟩) NB126_127.out _).trans (hHeld.2.2.2))))))))⟩ (fun hHeld => ?_)
    clear hK K
    refine dn ?_
    try go_wp2
    refine bodyPost_ret (results_cell_row rfl _ _ gb127 33 #[.int .i64 a0_0, .slice Ao20 y131.length co20, .slice Ao19 y137.length co19, .slice Ao18 y143.length co18] (0, 0) _ rfl ?_ Try.underlying33 rfl sqk) rfl ?_; exact bp BK127
    exact ⟨_, _, _, sqe, by (with_reducible repeat (first | apply Kd.R_alloc | apply Kd.R_drewN | apply Kd.R_drew)); exact Kd.R_mono (Kd.R_far (p := ⟨gb127, 3, none⟩) (Kd.R_far (p := ⟨gb127, 2, none⟩) (Kd.R_far (p := ⟨gb127, 1, none⟩) (Kd.R_far (p := ⟨gb127, 0, none⟩) (Kd.R_types HO133.out BK127.out (by decide)) (fun _ hk => hk.2) (.int .i64 a0_0)) (fun _ hk => hk.2) (.slice Ao20 y131.length co20)) (fun _ hk => hk.2) (.slice Ao19 y137.length co19)) (fun _ hk => hk.2) (.slice Ao18 y143.length co18)) (fun _ hk => ⟨hk.1.1, hk.1.2⟩), by (with_reducible repeat (first | apply Kd.R_alloc | apply Kd.R_drewN | apply Kd.R_drew)); exact Kd.R_mono (Kd.R_far (p := ⟨gb127, 3, none⟩) (Kd.R_far (p := ⟨gb127, 2, none⟩) (Kd.R_far (p := ⟨gb127, 1, none⟩) (Kd.R_far (p := ⟨gb127, 0, none⟩) (Kd.R_types HO139.out BK127.out (by decide)) (fun _ hk => hk.2) (.int .i64 a0_0)) (fun _ hk => hk.2) (.slice Ao20 y131.length co20)) (fun _ hk => hk.2) (.slice Ao19 y137.length co19)) (fun _ hk => hk.2) (.slice Ao18 y143.length co18)) (fun _ hk => ⟨hk.1.1, hk.1.2⟩), by (with_reducible repeat (first | apply Kd.R_alloc | apply Kd.R_drewN | apply Kd.R_drew)); exact Kd.R_mono (Kd.R_far (p := ⟨gb127, 3, none⟩) (Kd.R_far (p := ⟨gb127, 2, none⟩) (Kd.R_far (p := ⟨gb127, 1, none⟩) (Kd.R_far (p := ⟨gb127, 0, none⟩) (Kd.R_types HO145.out BK127.out (by decide)) (fun _ hk => hk.2) (.int .i64 a0_0)) (fun _ hk => hk.2) (.slice Ao20 y131.length co20)) (fun _ hk => hk.2) (.slice Ao19 y137.length co19)) (fun _ hk => hk.2) (.slice Ao18 y143.length co18)) (fun _ hk => ⟨hk.1.1, hk.1.2⟩), sqh⟩
   ·rw [if_neg c4] at H
    exact absurd H (by simp)
  ·rw [if_neg c3] at H
   exact absurd H (by simp)
 ·rw [if_neg c2] at H
  exact absurd H (by simp)

end Go.Proofs.Ytlmhemcpkmjkiaa.XFnAppraisal
