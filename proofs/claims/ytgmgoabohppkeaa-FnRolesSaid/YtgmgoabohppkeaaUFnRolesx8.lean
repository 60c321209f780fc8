/- Written by this session's own program (wip/xprint, which runs over the kit's print): what the functions that the law reaches come to, each proved; and the law's row. Conditions: none. -/
import Derived.Test.YtgmgoabohppkeaaUFnRolesx0
import Derived.Test.YtgmgoabohppkeaaUFnRolesx5
import Derived.Test.YtgmgoabohppkeaaUFnRolesx6
import Derived.Test.YtgmgoabohppkeaaUFnRolesx7
namespace Go.Proofs.Ytgmgoabohppkeaa.XFnRoles
open Go.RowKit Go.Proofs.YtgmgoabohppkeaaW.PrintWords Go.Proofs.YtgmgoabohppkeaaW.PrintLast Go.Proofs.YtgmgoabohppkeaaW.PrintMore
attribute [local go_sem] max2_int min2_int max_two min_two max_three min_three max_four min_four   -- for this text's walks alone
set_option linter.unusedVariables false
set_option linter.unusedSimpArgs false

/-! ### spec_PutFact: function 126 -/
mutual
def spec_PutFact.j0 : Nat → List (S75) → Bool → Int → Int → Int → Int → Int → Int → Option ((List (S75)) × Bool)
  | 0, _, _, _, _, _, _, _, _ => none
  | k + 1, x0, x17, x248000, x248001, x248002, x248003, x248004, x248005 => if x17 = true then ((spec_l7Copy.f x0).bind fun t250 => (some (t250, false))) else (spec_PutFact.l0 k x0 (([] : List (S75))) false 0 x248000 x248001 x248002 x248003 x248004 x248005)
def spec_PutFact.l0 : Nat → List (S75) → List (S75) → Bool → Int → Int → Int → Int → Int → Int → Int → Option ((List (S75)) × Bool)
  | 0, _, _, _, _, _, _, _, _, _, _ => none
  | k + 1, x0, x6, x7, x8, x248000, x248001, x248002, x248003, x248004, x248005 => if x8 < (x0.length : Int) then (if x7 = true then (spec_PutFact.j2 k x0 x6 x7 x8 false x248000 x248001 x248002 x248003 x248004 x248005) else (if 0 ≤ x8 then ((spec_FactBefore.f x248000 x248001 x248002 x248003 x248004 x248005 ((rd_T75 x0 x8).f0) ((rd_T75 x0 x8).f1) ((rd_T75 x0 x8).f2) ((rd_T75 x0 x8).f3) ((rd_T75 x0 x8).f4) ((rd_T75 x0 x8).f5)).bind fun t257 => (spec_PutFact.j2 k x0 x6 x7 x8 t257 x248000 x248001 x248002 x248003 x248004 x248005)) else (none))) else (if x7 = true then (if (x6.length : Int) > 30 then ((spec_l7Copy.f x0).bind fun t279 => (some (t279, false))) else (some (x6, true))) else (if x6.length < 2932031007402 then ((some (x6 ++ [(⟨x248000, x248001, x248002, x248003, x248004, x248005⟩ : S75)] : List (S75))).bind fun y282 => (if (y282.length : Int) > 30 then ((spec_l7Copy.f x0).bind fun t285 => (some (t285, false))) else (some (y282, true)))) else (none)))
def spec_PutFact.j2 : Nat → List (S75) → List (S75) → Bool → Int → Bool → Int → Int → Int → Int → Int → Int → Option ((List (S75)) × Bool)
  | 0, _, _, _, _, _, _, _, _, _, _, _ => none
  | k + 1, x0, x6, x7, x8, x36, x248000, x248001, x248002, x248003, x248004, x248005 => if x36 = true then (if x6.length < 2932031007402 then (spec_PutFact.j3 k x0 (x6 ++ [(⟨x248000, x248001, x248002, x248003, x248004, x248005⟩ : S75)]) true x8 x248000 x248001 x248002 x248003 x248004 x248005) else (none)) else (spec_PutFact.j3 k x0 x6 x7 x8 x248000 x248001 x248002 x248003 x248004 x248005)
def spec_PutFact.j3 : Nat → List (S75) → List (S75) → Bool → Int → Int → Int → Int → Int → Int → Int → Option ((List (S75)) × Bool)
  | 0, _, _, _, _, _, _, _, _, _, _ => none
  | k + 1, x0, x6, x7, x8, x248000, x248001, x248002, x248003, x248004, x248005 => if 0 ≤ x8 then (if x8 < (x0.length : Int) then ((spec_SameClaim.f x248000 x248001 x248002 x248003 x248004 x248005 ((rd_T75 x0 x8).f0) ((rd_T75 x0 x8).f1) ((rd_T75 x0 x8).f2) ((rd_T75 x0 x8).f3) ((rd_T75 x0 x8).f4) ((rd_T75 x0 x8).f5)).bind fun t263 => (if t263 = true then (if x248004 > ((rd_T75 x0 x8).f4) then (if x6.length < 2932031007402 then (spec_PutFact.l0 k x0 (x6 ++ [(⟨x248000, x248001, x248002, x248003, x248004, x248005⟩ : S75)]) true (wrap64 (x8 + 1)) x248000 x248001 x248002 x248003 x248004 x248005) else (none)) else (if x248004 = ((rd_T75 x0 x8).f4) then (if x248005 > ((rd_T75 x0 x8).f5) then (if x6.length < 2932031007402 then (spec_PutFact.l0 k x0 (x6 ++ [(⟨x248000, x248001, x248002, x248003, x248004, x248005⟩ : S75)]) true (wrap64 (x8 + 1)) x248000 x248001 x248002 x248003 x248004 x248005) else (none)) else (if x6.length < 2932031007402 then (spec_PutFact.l0 k x0 (x6 ++ [(⟨(rd_T75 x0 x8).f0, (rd_T75 x0 x8).f1, (rd_T75 x0 x8).f2, (rd_T75 x0 x8).f3, (rd_T75 x0 x8).f4, (rd_T75 x0 x8).f5⟩ : S75)]) true (wrap64 (x8 + 1)) x248000 x248001 x248002 x248003 x248004 x248005) else (none))) else (if x6.length < 2932031007402 then (spec_PutFact.l0 k x0 (x6 ++ [(⟨(rd_T75 x0 x8).f0, (rd_T75 x0 x8).f1, (rd_T75 x0 x8).f2, (rd_T75 x0 x8).f3, (rd_T75 x0 x8).f4, (rd_T75 x0 x8).f5⟩ : S75)]) true (wrap64 (x8 + 1)) x248000 x248001 x248002 x248003 x248004 x248005) else (none)))) else (if x6.length < 2932031007402 then (spec_PutFact.l0 k x0 (x6 ++ [(⟨(rd_T75 x0 x8).f0, (rd_T75 x0 x8).f1, (rd_T75 x0 x8).f2, (rd_T75 x0 x8).f3, (rd_T75 x0 x8).f4, (rd_T75 x0 x8).f5⟩ : S75)]) x7 (wrap64 (x8 + 1)) x248000 x248001 x248002 x248003 x248004 x248005) else (none)))) else (none)) else (none)
end
def spec_PutFact.f (k : Nat) (l0 : List (S75)) (a1_0 : Int) (a1_1 : Int) (a1_2 : Int) (a1_3 : Int) (a1_4 : Int) (a1_5 : Int) : Option ((List (S75)) × Bool) := (spec_IsStore.f k l0).bind fun t248 => (if t248 = true then ((spec_IsFact.f a1_0 a1_1 a1_2 a1_3 a1_4 a1_5).bind fun t249 => (spec_PutFact.j0 k l0 (!t249) a1_0 a1_1 a1_2 a1_3 a1_4 a1_5)) else (spec_PutFact.j0 k l0 true a1_0 a1_1 a1_2 a1_3 a1_4 a1_5))
theorem spec_PutFact.mono_l : ∀ k, (∀ y0 y1 y2 y3 y4 y5 y6 y7, LeO (spec_PutFact.j0 k y0 y1 y2 y3 y4 y5 y6 y7) (spec_PutFact.j0 (k + 1) y0 y1 y2 y3 y4 y5 y6 y7)) ∧ (∀ y0 y1 y2 y3 y4 y5 y6 y7 y8 y9, LeO (spec_PutFact.l0 k y0 y1 y2 y3 y4 y5 y6 y7 y8 y9) (spec_PutFact.l0 (k + 1) y0 y1 y2 y3 y4 y5 y6 y7 y8 y9)) ∧ (∀ y0 y1 y2 y3 y4 y5 y6 y7 y8 y9 y10, LeO (spec_PutFact.j2 k y0 y1 y2 y3 y4 y5 y6 y7 y8 y9 y10) (spec_PutFact.j2 (k + 1) y0 y1 y2 y3 y4 y5 y6 y7 y8 y9 y10)) ∧ (∀ y0 y1 y2 y3 y4 y5 y6 y7 y8 y9, LeO (spec_PutFact.j3 k y0 y1 y2 y3 y4 y5 y6 y7 y8 y9) (spec_PutFact.j3 (k + 1) y0 y1 y2 y3 y4 y5 y6 y7 y8 y9))
  | 0 => ⟨fun _ _ _ _ _ _ _ _ r h => by simp [spec_PutFact.j0] at h, fun _ _ _ _ _ _ _ _ _ _ r h => by simp [spec_PutFact.l0] at h, fun _ _ _ _ _ _ _ _ _ _ _ r h => by simp [spec_PutFact.j2] at h, fun _ _ _ _ _ _ _ _ _ _ r h => by simp [spec_PutFact.j3] at h⟩
  | k + 1 => by
    obtain ⟨ih0, ih1, ih2, ih3⟩ := spec_PutFact.mono_l k
    refine ⟨?_, ?_, ?_, ?_⟩
    · intro y0 y1 y2 y3 y4 y5 y6 y7
      unfold spec_PutFact.j0
      repeat' first
      | (with_reducible exact ih0 _ _ _ _ _ _ _ _)
      | (with_reducible exact ih1 _ _ _ _ _ _ _ _ _ _)
      | (with_reducible exact ih2 _ _ _ _ _ _ _ _ _ _ _)
      | (with_reducible exact ih3 _ _ _ _ _ _ _ _ _ _)
      | (with_reducible exact spec_IsStore.mono _ _)
      | (with_reducible exact LeO.refl _)
      | (with_reducible exact LeO.none _)
      | (with_reducible refine LeO.ite ?_ ?_)
      | (with_reducible refine LeO.bind ?_ (fun _ => ?_))
      | exact ih0 _ _ _ _ _ _ _ _
      | exact ih1 _ _ _ _ _ _ _ _ _ _
      | exact ih2 _ _ _ _ _ _ _ _ _ _ _
      | exact ih3 _ _ _ _ _ _ _ _ _ _
      | exact spec_IsStore.mono _ _
      | exact LeO.none _
      | refine LeO.ite ?_ ?_
      | refine LeO.bind ?_ (fun _ => ?_)
    · intro y0 y1 y2 y3 y4 y5 y6 y7 y8 y9
      unfold spec_PutFact.l0
      repeat' first
      | (with_reducible exact ih0 _ _ _ _ _ _ _ _)
      | (with_reducible exact ih1 _ _ _ _ _ _ _ _ _ _)
      | (with_reducible exact ih2 _ _ _ _ _ _ _ _ _ _ _)
      | (with_reducible exact ih3 _ _ _ _ _ _ _ _ _ _)
      | (with_reducible exact spec_IsStore.mono _ _)
      | (with_reducible exact LeO.refl _)
      | (with_reducible exact LeO.none _)
      | (with_reducible refine LeO.ite ?_ ?_)
      | (with_reducible refine LeO.bind ?_ (fun _ => ?_))
      | exact ih0 _ _ _ _ _ _ _ _
      | exact ih1 _ _ _ _ _ _ _ _ _ _
      | exact ih2 _ _ _ _ _ _ _ _ _ _ _
      | exact ih3 _ _ _ _ _ _ _ _ _ _
      | exact spec_IsStore.mono _ _
      | exact LeO.none _
      | refine LeO.ite ?_ ?_
      | refine LeO.bind ?_ (fun _ => ?_)
    · intro y0 y1 y2 y3 y4 y5 y6 y7 y8 y9 y10
      unfold spec_PutFact.j2
      repeat' first
      | (with_reducible exact ih0 _ _ _ _ _ _ _ _)
      | (with_reducible exact ih1 _ _ _ _ _ _ _ _ _ _)
      | (with_reducible exact ih2 _ _ _ _ _ _ _ _ _ _ _)
      | (with_reducible exact ih3 _ _ _ _ _ _ _ _ _ _)
      | (with_reducible exact spec_IsStore.mono _ _)
      | (with_reducible exact LeO.refl _)
      | (with_reducible exact LeO.none _)
      | (with_reducible refine LeO.ite ?_ ?_)
      | (with_reducible refine LeO.bind ?_ (fun _ => ?_))
      | exact ih0 _ _ _ _ _ _ _ _
      | exact ih1 _ _ _ _ _ _ _ _ _ _
      | exact ih2 _ _ _ _ _ _ _ _ _ _ _
      | exact ih3 _ _ _ _ _ _ _ _ _ _
      | exact spec_IsStore.mono _ _
      | exact LeO.none _
      | refine LeO.ite ?_ ?_
      | refine LeO.bind ?_ (fun _ => ?_)
    · intro y0 y1 y2 y3 y4 y5 y6 y7 y8 y9
      unfold spec_PutFact.j3
      repeat' first
      | (with_reducible exact ih0 _ _ _ _ _ _ _ _)
      | (with_reducible exact ih1 _ _ _ _ _ _ _ _ _ _)
      | (with_reducible exact ih2 _ _ _ _ _ _ _ _ _ _ _)
      | (with_reducible exact ih3 _ _ _ _ _ _ _ _ _ _)
      | (with_reducible exact spec_IsStore.mono _ _)
      | (with_reducible exact LeO.refl _)
      | (with_reducible exact LeO.none _)
      | (with_reducible refine LeO.ite ?_ ?_)
      | (with_reducible refine LeO.bind ?_ (fun _ => ?_))
      | exact ih0 _ _ _ _ _ _ _ _
      | exact ih1 _ _ _ _ _ _ _ _ _ _
      | exact ih2 _ _ _ _ _ _ _ _ _ _ _
      | exact ih3 _ _ _ _ _ _ _ _ _ _
      | exact spec_IsStore.mono _ _
      | exact LeO.none _
      | refine LeO.ite ?_ ?_
      | refine LeO.bind ?_ (fun _ => ?_)
theorem spec_PutFact.mono : ∀ a0 a1 a2 a3 a4 a5 a6 k, LeO (spec_PutFact.f k a0 a1 a2 a3 a4 a5 a6) (spec_PutFact.f (k + 1) a0 a1 a2 a3 a4 a5 a6) := by
  intro a0 a1 a2 a3 a4 a5 a6 k
  obtain ⟨ih0, ih1, ih2, ih3⟩ := spec_PutFact.mono_l k
  unfold spec_PutFact.f
  repeat' first
      | (with_reducible exact ih0 _ _ _ _ _ _ _ _)
      | (with_reducible exact ih1 _ _ _ _ _ _ _ _ _ _)
      | (with_reducible exact ih2 _ _ _ _ _ _ _ _ _ _ _)
      | (with_reducible exact ih3 _ _ _ _ _ _ _ _ _ _)
      | (with_reducible exact spec_IsStore.mono _ _)
      | (with_reducible exact LeO.refl _)
      | (with_reducible exact LeO.none _)
      | (with_reducible refine LeO.ite ?_ ?_)
      | (with_reducible refine LeO.bind ?_ (fun _ => ?_))
      | exact ih0 _ _ _ _ _ _ _ _
      | exact ih1 _ _ _ _ _ _ _ _ _ _
      | exact ih2 _ _ _ _ _ _ _ _ _ _ _
      | exact ih3 _ _ _ _ _ _ _ _ _ _
      | exact spec_IsStore.mono _ _
      | exact LeO.none _
      | refine LeO.ite ?_ ?_
      | refine LeO.bind ?_ (fun _ => ?_)
def spec_PutFact.T8 : Bool × List (List Nat × List Nat) := (true, [([], []), ([0], [0]), ([1], [1]), ([2], [2]), ([2], [2]), ([2], [2]), ([4, 5, 2], [2, 4, 5]), ([6, 2], [2, 6]), ([3, 7, 2, 2], [2, 3, 7]), ([2, 8], [2, 8])])
def spec_PutFact.B8 : List Nat := [0, 1, 3, 7, 7, 7, 55, 119, 255, 511]
theorem spec_PutFact.tab8 : rtab .any (opsOf Try.f126 8) = spec_PutFact.T8 := by kernel_rfl
theorem spec_PutFact.bits8 : waitsOk spec_PutFact.T8.2 spec_PutFact.B8 = true := by kernel_rfl
theorem pB126_ {P Q : Prop} (h : P) (g : P → Q := by intro h_; (with_reducible repeat (first | refine blk_drewN ?_ _ | refine blk_drew ?_ | refine blk_alloc ?_ _)); exact h_) : Q := g h
theorem pR126_ {P Q : Prop} (h : P) (g : P → Q := by intro h_; (with_reducible repeat (first | apply Kd.R_alloc | apply Kd.R_drewN | apply Kd.R_drew)); exact h_) : Q := g h
theorem z126_0 {Q : Prop} (g : Q := by (with_reducible repeat (first | refine blk_drewN ?_ _ | refine blk_drew ?_ | refine blk_alloc ?_ _)); refine blk_far ?_ NB247_262.out _; (with_reducible repeat (first | refine blk_drewN ?_ _ | refine blk_drew ?_ | refine blk_alloc ?_ _)); refine blk_far ?_ NB247_262.out _; (with_reducible repeat (first | refine blk_drewN ?_ _ | refine blk_drew ?_ | refine blk_alloc ?_ _)); refine blk_far ?_ NB247_262.out _; (with_reducible repeat (first | refine blk_drewN ?_ _ | refine blk_drew ?_ | refine blk_alloc ?_ _)); refine blk_far ?_ NB247_262.out _; (with_reducible repeat (first | refine blk_drewN ?_ _ | refine blk_drew ?_ | refine blk_alloc ?_ _)); refine blk_far ?_ NB247_262.out _; (with_reducible repeat (first | refine blk_drewN ?_ _ | refine blk_drew ?_ | refine blk_alloc ?_ _)); refine blk_far ?_ NB247_262.out _; (with_reducible repeat (first | refine blk_drewN ?_ _ | refine blk_drew ?_ | refine blk_alloc ?_ _)); exact BK247.out) : Q := g
theorem z126_1 {Q : Prop} (g : Q := by (with_reducible repeat (first | refine blk_drewN ?_ _ | refine blk_drew ?_ | refine blk_alloc ?_ _)); refine blk_put (cs := #[.int .i64 ((rd_T75 l0 x8_2).f0), .int .i64 ((rd_T75 l0 x8_2).f1), .int .i64 ((rd_T75 l0 x8_2).f2), .int .i64 ((rd_T75 l0 x8_2).f3), .int .i64 ((rd_T75 l0 x8_2).f4), .int .i64 0]) ?_ 5 _ rfl; (with_reducible repeat (first | refine blk_drewN ?_ _ | refine blk_drew ?_ | refine blk_alloc ?_ _)); refine blk_put (cs := #[.int .i64 ((rd_T75 l0 x8_2).f0), .int .i64 ((rd_T75 l0 x8_2).f1), .int .i64 ((rd_T75 l0 x8_2).f2), .int .i64 ((rd_T75 l0 x8_2).f3), .int .i64 0, .int .i64 0]) ?_ 4 _ rfl; (with_reducible repeat (first | refine blk_drewN ?_ _ | refine blk_drew ?_ | refine blk_alloc ?_ _)); refine blk_put (cs := #[.int .i64 ((rd_T75 l0 x8_2).f0), .int .i64 ((rd_T75 l0 x8_2).f1), .int .i64 ((rd_T75 l0 x8_2).f2), .int .i64 0, .int .i64 0, .int .i64 0]) ?_ 3 _ rfl; (with_reducible repeat (first | refine blk_drewN ?_ _ | refine blk_drew ?_ | refine blk_alloc ?_ _)); refine blk_put (cs := #[.int .i64 ((rd_T75 l0 x8_2).f0), .int .i64 ((rd_T75 l0 x8_2).f1), .int .i64 0, .int .i64 0, .int .i64 0, .int .i64 0]) ?_ 2 _ rfl; (with_reducible repeat (first | refine blk_drewN ?_ _ | refine blk_drew ?_ | refine blk_alloc ?_ _)); refine blk_put (cs := #[.int .i64 ((rd_T75 l0 x8_2).f0), .int .i64 0, .int .i64 0, .int .i64 0, .int .i64 0, .int .i64 0]) ?_ 1 _ rfl; (with_reducible repeat (first | refine blk_drewN ?_ _ | refine blk_drew ?_ | refine blk_alloc ?_ _)); refine blk_put (cs := #[.int .i64 0, .int .i64 0, .int .i64 0, .int .i64 0, .int .i64 0, .int .i64 0]) ?_ 0 _ rfl; (with_reducible repeat (first | refine blk_drewN ?_ _ | refine blk_drew ?_ | refine blk_alloc ?_ _)); exact BK262.out) : Q := g
theorem z126_2 {Q : Prop} (g : Q := by (with_reducible repeat (first | refine blk_drewN ?_ _ | refine blk_drew ?_ | refine blk_alloc ?_ _)); refine blk_put (cs := #[.int .i64 a1_0, .int .i64 a1_1, .int .i64 a1_2, .int .i64 a1_3, .int .i64 a1_4, .int .i64 ((rd_T75 l0 x8_2).f5)]) ?_ 5 _ rfl; (with_reducible repeat (first | refine blk_drewN ?_ _ | refine blk_drew ?_ | refine blk_alloc ?_ _)); refine blk_put (cs := #[.int .i64 a1_0, .int .i64 a1_1, .int .i64 a1_2, .int .i64 a1_3, .int .i64 ((rd_T75 l0 x8_2).f4), .int .i64 ((rd_T75 l0 x8_2).f5)]) ?_ 4 _ rfl; (with_reducible repeat (first | refine blk_drewN ?_ _ | refine blk_drew ?_ | refine blk_alloc ?_ _)); refine blk_put (cs := #[.int .i64 a1_0, .int .i64 a1_1, .int .i64 a1_2, .int .i64 ((rd_T75 l0 x8_2).f3), .int .i64 ((rd_T75 l0 x8_2).f4), .int .i64 ((rd_T75 l0 x8_2).f5)]) ?_ 3 _ rfl; (with_reducible repeat (first | refine blk_drewN ?_ _ | refine blk_drew ?_ | refine blk_alloc ?_ _)); refine blk_put (cs := #[.int .i64 a1_0, .int .i64 a1_1, .int .i64 ((rd_T75 l0 x8_2).f2), .int .i64 ((rd_T75 l0 x8_2).f3), .int .i64 ((rd_T75 l0 x8_2).f4), .int .i64 ((rd_T75 l0 x8_2).f5)]) ?_ 2 _ rfl; (with_reducible repeat (first | refine blk_drewN ?_ _ | refine blk_drew ?_ | refine blk_alloc ?_ _)); refine blk_put (cs := #[.int .i64 a1_0, .int .i64 ((rd_T75 l0 x8_2).f1), .int .i64 ((rd_T75 l0 x8_2).f2), .int .i64 ((rd_T75 l0 x8_2).f3), .int .i64 ((rd_T75 l0 x8_2).f4), .int .i64 ((rd_T75 l0 x8_2).f5)]) ?_ 1 _ rfl; (with_reducible repeat (first | refine blk_drewN ?_ _ | refine blk_drew ?_ | refine blk_alloc ?_ _)); refine blk_put (cs := #[.int .i64 ((rd_T75 l0 x8_2).f0), .int .i64 ((rd_T75 l0 x8_2).f1), .int .i64 ((rd_T75 l0 x8_2).f2), .int .i64 ((rd_T75 l0 x8_2).f3), .int .i64 ((rd_T75 l0 x8_2).f4), .int .i64 ((rd_T75 l0 x8_2).f5)]) ?_ 0 _ rfl; (with_reducible repeat (first | refine blk_drewN ?_ _ | refine blk_drew ?_ | refine blk_alloc ?_ _)); exact BK262.out) : Q := g
theorem z126_3 {Q : Prop} (g : Q := by repeat (first | (with_reducible first | exact HB.out | apply bA_ | apply bN_ | apply bD_ | refine bS_ ?_ GE247.out) | exact HB.out)) : Q := g
theorem z126_4 {Q : Prop} (g : Q := by (with_reducible repeat (first | apply Kd.R_alloc | apply Kd.R_drewN | apply Kd.R_drew)); exact (Kd.R_mono (Kd.R_far (p := ⟨gb262, 5, none⟩) (Kd.R_far (p := ⟨gb262, 4, none⟩) (Kd.R_far (p := ⟨gb262, 3, none⟩) (Kd.R_far (p := ⟨gb262, 2, none⟩) (Kd.R_far (p := ⟨gb262, 1, none⟩) (Kd.R_far (p := ⟨gb262, 0, none⟩) (Kd.R_mono HO_6.out (fun k_ hk => (⟨hk, hk.2⟩ : _ ∧ k_ ≠ gb262))) (fun _ hk => hk.2) (.int .i64 ((rd_T75 l0 x8_2).f0))) (fun _ hk => hk.2) (.int .i64 ((rd_T75 l0 x8_2).f1))) (fun _ hk => hk.2) (.int .i64 ((rd_T75 l0 x8_2).f2))) (fun _ hk => hk.2) (.int .i64 ((rd_T75 l0 x8_2).f3))) (fun _ hk => hk.2) (.int .i64 ((rd_T75 l0 x8_2).f4))) (fun _ hk => hk.2) (.int .i64 ((rd_T75 l0 x8_2).f5))) (fun _ h_ => h_.1))) : Q := g
theorem z126_5 {Q : Prop} (g : Q := by repeat (first | (with_reducible first | exact HB.out | apply bA_ | apply bN_ | apply bD_ | refine bS_ ?_ GE247.out | refine bS_ ?_ GE262.out) | exact HB.out)) : Q := g
theorem z126_6 {Q : Prop} (g : Q := by (try simp only [List.map_toArray, List.map_cons, List.map_nil]); first | done | rfl | (simp only [List.length_drop, List.length_take]; rfl)) : Q := g
theorem z126_7 {Q : Prop} (g : Q := by rw [hg]; exact Nat.ne_of_lt (blk_lt (g := gb247) (o := .cells #[.int .i64 a1_0, .int .i64 a1_1, .int .i64 a1_2, .int .i64 a1_3, .int .i64 a1_4, .int .i64 a1_5] 75 (0, 0)) (pB126_ BK247.out))) : Q := g
theorem z126_8 {Q : Prop} (g : Q := by rw [hg]; exact Nat.ne_of_gt (blk_lt (g := gb247) (o := .cells #[.int .i64 a1_0, .int .i64 a1_1, .int .i64 a1_2, .int .i64 a1_3, .int .i64 a1_4, .int .i64 a1_5] 75 (0, 0)) (pB126_ BK247.out))) : Q := g
theorem z126_9 {Q : Prop} (g : Q := by first | rfl | (simp; done) | (simp [*]; done)) : Q := g
theorem z126_10 {Q : Prop} (g : Q := by (with_reducible repeat (first | apply Kd.R_alloc | apply Kd.R_drewN | apply Kd.R_drew)); exact Kd.R_mono (Kd.R_far (p := ⟨gb262, 5, none⟩) (Kd.R_far (p := ⟨gb262, 4, none⟩) (Kd.R_far (p := ⟨gb262, 3, none⟩) (Kd.R_far (p := ⟨gb262, 2, none⟩) (Kd.R_far (p := ⟨gb262, 1, none⟩) (Kd.R_far (p := ⟨gb262, 0, none⟩) (Kd.R_mono HO_6.out (fun k_ hk => (⟨hk, hk.2⟩ : _ ∧ k_ ≠ gb262))) (fun _ hk => hk.2) (.int .i64 a1_0)) (fun _ hk => hk.2) (.int .i64 a1_1)) (fun _ hk => hk.2) (.int .i64 a1_2)) (fun _ hk => hk.2) (.int .i64 a1_3)) (fun _ hk => hk.2) (.int .i64 a1_4)) (fun _ hk => hk.2) (.int .i64 a1_5)) (fun _ hk => ⟨hk.1.1, hk.1.2⟩)) : Q := g
theorem z126_11 {Q : Prop} (g : Q := by first | (with_reducible assumption) | assumption) : Q := g
theorem z126_12 {Q : Prop} (g : Q := by rw [hg]; exact (below_size z126_3)) : Q := g
theorem z126_13 {Q : Prop} (g : Q := by repeat (first | (with_reducible first | exact HB.out | apply bA_ | apply bN_ | apply bD_) | exact HB.out)) : Q := g
theorem z126_14 {Q : Prop} (g : Q := by kernel_rfl) : Q := g
set_option maxHeartbeats 8000000 in
set_option maxRecDepth 100000 in
theorem spec_PutFact.calls (k : Nat) (A0 : Option Addr) (c0 : Nat) (l0 : List (S75)) (a1_0 : Int) (a1_1 : Int) (a1_2 : Int) (a1_3 : Int) (a1_4 : Int) (a1_5 : Int) (r1 : List (S75)) (r2 : Bool) (w : World) (hr0 : Kd.C k75 w A0 l0.length l0) (hc0 : l0.length ≤ c0) (h : spec_PutFact.f k l0 a1_0 a1_1 a1_2 a1_3 a1_4 a1_5 = some (r1, r2)) :
    Calls Try.prog 126 #[.slice A0 l0.length c0, .agg #[.int .i64 a1_0, .int .i64 a1_1, .int .i64 a1_2, .int .i64 a1_3, .int .i64 a1_4, .int .i64 a1_5]] w fun e w' => ∃ v0_ : Value, e = .returned (.tuple #[v0_, .bool r2]) ∧ Kd.R k75 75 w' w.heap.size (fun _ => True) v0_ r1 ∧ Below w.heap.size w w' := by
  have hu75 := Try.underlying75
  have HR0 := Aside0.mk hr0
  have HC0 := Aside0.mk hc0
  clear hr0 hc0
  have HB := Aside0.mk (Below.refl w.heap.size w)
  have H : ((spec_IsStore.f k l0).bind fun t248 => (if t248 = true then ((spec_IsFact.f a1_0 a1_1 a1_2 a1_3 a1_4 a1_5).bind fun t249 => (spec_PutFact.j0 k l0 (!t249) a1_0 a1_1 a1_2 a1_3 a1_4 a1_5)) else (spec_PutFact.j0 k l0 true a1_0 a1_1 a1_2 a1_3 a1_4 a1_5))) = some (r1, r2) := h
  clear h
  have HC3 := Aside0.mk H
  clear H
  go_enter Try.func126, Try.ntmps126
  go_upto_region 1 with (first | ((with_reducible refine gate_dst (N := 3) rfl ?_); refine box_event ?hg (N := 3) ?hd (cs := #[.int .i64 a1_0, .int .i64 a1_1, .int .i64 a1_2, .int .i64 a1_3, .int .i64 a1_4, .int .i64 a1_5]) (t := 75) ?hr ?_; (case hd => rfl); (case hg => rfl); (case hr => first | (go_simp; done) | (go_simp; rfl)); intro gb247 hg w4 hbox hb; have n0_ := Aside0.mk (below_step z126_13 hb); have n1_ := Aside0.mk (hbox); have n2_ := Aside0.mk ((by rw [hg]; exact (below_size z126_13) : w.heap.size ≤ gb247)); have n3_ := Aside0.mk ((by rw [hg]; exact (below_size z126_13) : w.heap.size ≤ gb247)); clear HB; have HB := n0_; have BK247 := n1_; have GW247 := n2_; have GE247 := n3_; clear n0_ n1_ n2_ n3_; clear hb hbox hg))
  (try simp only [Act.put, List.setIfInBounds_toArray, List.set_cons_zero, List.set_cons_succ])
  go_cut [17] (fun v17 wc => ∃ (kq : Nat) (x17_2 : Bool), v17 = .bool x17_2 ∧ Aside0 (spec_PutFact.j0 kq l0 x17_2 a1_0 a1_1 a1_2 a1_3 a1_4 a1_5 = some (r1, r2)) ∧ Aside0 (kq ≤ k) ∧ Aside0 (wc.heap[gb247]? = some (.cells #[.int .i64 a1_0, .int .i64 a1_1, .int .i64 a1_2, .int .i64 a1_3, .int .i64 a1_4, .int .i64 a1_5] 75 (0, 0))) ∧ Aside0 (Below w.heap.size w wc))
  case first =>
    have H := HC3.out
    clear HC3
    replace H := Option.bind_eq_some_iff.mp H
    obtain ⟨t248, A50, H⟩ := H
    replace H : (if t248 = true then ((spec_IsFact.f a1_0 a1_1 a1_2 a1_3 a1_4 a1_5).bind fun t249 => (spec_PutFact.j0 k l0 (!t249) a1_0 a1_1 a1_2 a1_3 a1_4 a1_5)) else (spec_PutFact.j0 k l0 true a1_0 a1_1 a1_2 a1_3 a1_4 a1_5)) = some (r1, r2) := H
    have A5 := Aside0.mk A50
    clear A50
    by_cases c6 : t248 = true
    · subst c6
      have H1 : ((spec_IsFact.f a1_0 a1_1 a1_2 a1_3 a1_4 a1_5).bind fun t249 => (spec_PutFact.j0 k l0 (!t249) a1_0 a1_1 a1_2 a1_3 a1_4 a1_5)) = some (r1, r2) := by rw [if_pos rfl] at H; exact H
      clear H
      have H := H1
      clear H1
      replace H := Option.bind_eq_some_iff.mp H
      obtain ⟨t249, A70, H⟩ := H
      replace H : (spec_PutFact.j0 k l0 (!t249) a1_0 a1_1 a1_2 a1_3 a1_4 a1_5) = some (r1, r2) := H
      have A7 := Aside0.mk A70
      clear A70
      have H' := Aside0.mk H
      clear H
      go_wp2_with (first | ((with_reducible refine gate_callee (f := 137) rfl ?_); refine goesL_ (some 11) rfl rfl Try.func137 z126_14 rfl #[.slice A0 l0.length c0] rfl z126_6 ?_; (with_reducible refine (spec_IsStore.calls k _ _ l0 true _ ?side1 ?side2 A5.out).mono ?_); (case side1 => repeat (first | exact (Kd.C_below HR0.out HB.out) | (with_reducible refine Kd.C_alloc ?_ _) | (with_reducible refine Kd.C_drewN ?_ _) | (with_reducible refine Kd.C_drew ?_))); (case side2 => exact HC0.out); rintro e w8 ⟨rfl, hb⟩; refine ⟨_, rfl, ?_⟩; have n0_ := Aside0.mk (blk_below (g := gb247) (o := .cells #[.int .i64 a1_0, .int .i64 a1_1, .int .i64 a1_2, .int .i64 a1_3, .int .i64 a1_4, .int .i64 a1_5] 75 (0, 0)) (pB126_ BK247.out) hb); have n1_ := Aside0.mk (below_step z126_3 hb); clear BK247; clear HB; have BK247 := n0_; have HB := n1_; clear n0_ n1_; (try clear hb); (try clear hb2); (try clear hk); (try clear hi); have hcz9_0 : w8.cell? ⟨gb247, 0, none⟩ = some (.int .i64 a1_0) := (bC_ BK247.out 0).trans rfl; have hcz9_1 : w8.cell? ⟨gb247, 1, none⟩ = some (.int .i64 a1_1) := (bC_ BK247.out 1).trans rfl; have hcz9_2 : w8.cell? ⟨gb247, 2, none⟩ = some (.int .i64 a1_2) := (bC_ BK247.out 2).trans rfl; have hcz9_3 : w8.cell? ⟨gb247, 3, none⟩ = some (.int .i64 a1_3) := (bC_ BK247.out 3).trans rfl; have hcz9_4 : w8.cell? ⟨gb247, 4, none⟩ = some (.int .i64 a1_4) := (bC_ BK247.out 4).trans rfl; have hcz9_5 : w8.cell? ⟨gb247, 5, none⟩ = some (.int .i64 a1_5) := (bC_ BK247.out 5).trans rfl; have hfz9_0 := bF_ BK247.out 0; have hfz9_1 := bF_ BK247.out 1; have hfz9_2 := bF_ BK247.out 2; have hfz9_3 := bF_ BK247.out 3; have hfz9_4 := bF_ BK247.out 4; have hfz9_5 := bF_ BK247.out 5) | (go_at_call 94; (with_reducible refine (spec_IsFact.calls a1_0 a1_1 a1_2 a1_3 a1_4 a1_5 t249 _ A7.out).mono ?_); rintro e w10 ⟨rfl, hb⟩; have n0_ := Aside0.mk (blk_below (g := gb247) (o := .cells #[.int .i64 a1_0, .int .i64 a1_1, .int .i64 a1_2, .int .i64 a1_3, .int .i64 a1_4, .int .i64 a1_5] 75 (0, 0)) (pB126_ BK247.out) hb); have n1_ := Aside0.mk (below_step z126_3 hb); clear BK247; clear HB; have BK247 := n0_; have HB := n1_; clear n0_ n1_; (try clear hb); (try clear hb2); (try clear hk); (try clear hi)))
      go_meet
      case rel => exact ⟨_, (!t249), z126_9, H', ⟨by first | omega | exact Nat.le_refl _⟩, ⟨by (with_reducible repeat (first | refine blk_drewN ?_ _ | refine blk_drew ?_ | refine blk_alloc ?_ _)); exact BK247.out⟩, ⟨by repeat (first | (with_reducible first | exact HB.out | apply bA_ | apply bN_ | apply bD_ | refine bS_ ?_ GE247.out) | exact HB.out)⟩⟩
    · replace c6 := Bool.eq_false_iff.mpr c6
      subst c6
      have H1 : (spec_PutFact.j0 k l0 true a1_0 a1_1 a1_2 a1_3 a1_4 a1_5) = some (r1, r2) := by rw [if_neg (show ¬ (false = true) by decide)] at H; exact H
      clear H
      have H := H1
      clear H1
      have H' := Aside0.mk H
      clear H
      go_wp2_with (first | ((with_reducible refine gate_callee (f := 137) rfl ?_); refine goesL_ (some 11) rfl rfl Try.func137 z126_14 rfl #[.slice A0 l0.length c0] rfl z126_6 ?_; (with_reducible refine (spec_IsStore.calls k _ _ l0 false _ ?side1 ?side2 A5.out).mono ?_); (case side1 => repeat (first | exact (Kd.C_below HR0.out HB.out) | (with_reducible refine Kd.C_alloc ?_ _) | (with_reducible refine Kd.C_drewN ?_ _) | (with_reducible refine Kd.C_drew ?_))); (case side2 => exact HC0.out); rintro e w11 ⟨rfl, hb⟩; refine ⟨_, rfl, ?_⟩; have n0_ := Aside0.mk (blk_below (g := gb247) (o := .cells #[.int .i64 a1_0, .int .i64 a1_1, .int .i64 a1_2, .int .i64 a1_3, .int .i64 a1_4, .int .i64 a1_5] 75 (0, 0)) (pB126_ BK247.out) hb); have n1_ := Aside0.mk (below_step z126_3 hb); clear BK247; clear HB; have BK247 := n0_; have HB := n1_; clear n0_ n1_; (try clear hb); (try clear hb2); (try clear hk); (try clear hi)))
      go_meet
      case rel => exact ⟨_, (true), z126_9, H', ⟨by first | omega | exact Nat.le_refl _⟩, ⟨by (with_reducible repeat (first | refine blk_drewN ?_ _ | refine blk_drew ?_ | refine blk_alloc ?_ _)); exact BK247.out⟩, ⟨by repeat (first | (with_reducible first | exact HB.out | apply bA_ | apply bN_ | apply bD_ | refine bS_ ?_ GE247.out) | exact HB.out)⟩⟩
  case rest =>
    clear HC3
    try clear c1
    try clear p2
    try clear c6
    try clear hcz9_0
    try clear hcz9_1
    try clear hcz9_2
    try clear hcz9_3
    try clear hcz9_4
    try clear hcz9_5
    try clear hfz9_0
    try clear hfz9_1
    try clear hfz9_2
    try clear hfz9_3
    try clear hfz9_4
    try clear hfz9_5
    obtain ⟨kq, x17_2, rfl, HA, HJ2, BK247, HB⟩ := hcut
    cases kq with
    | zero => exact absurd HA.out (by simp [spec_PutFact.j0])
    | succ kj2 =>
      have H := HA.out
      clear HA
      simp only [spec_PutFact.j0] at H
      by_cases c12 : x17_2 = true
      · subst c12
        have H1 : ((spec_l7Copy.f l0).bind fun t250 => (some (t250, false))) = some (r1, r2) := by rw [if_pos rfl] at H; exact H
        clear H
        have H := H1
        clear H1
        replace H := Option.bind_eq_some_iff.mp H
        obtain ⟨t250, A130, H⟩ := H
        replace H : (some (t250, false)) = some (r1, r2) := H
        have A13 := Aside0.mk A130
        clear A130
        simp only [Option.some.injEq, Prod.mk.injEq] at H
        obtain ⟨rfl, rfl⟩ := H
        go_wp2_with (first | ((with_reducible refine gate_callee (f := 138) rfl ?_); refine goesL_ (some 19) rfl rfl Try.func138 z126_14 rfl #[.slice A0 l0.length c0] rfl z126_6 ?_; (with_reducible refine (spec_l7Copy.calls _ _ l0 t250 _ ?side1 ?side2 A13.out).mono ?_); (case side1 => repeat (first | exact (Kd.C_below HR0.out HB.out) | (with_reducible refine Kd.C_alloc ?_ _) | (with_reducible refine Kd.C_drewN ?_ _) | (with_reducible refine Kd.C_drew ?_))); (case side2 => exact HC0.out); rintro e w14 ⟨v251, rfl, ho0, hb⟩; refine ⟨_, rfl, ?_⟩; have n0_ := Aside0.mk (Kd.R_lower (Kd.R_newB ho0 (g := gb247) (o := .cells #[.int .i64 a1_0, .int .i64 a1_1, .int .i64 a1_2, .int .i64 a1_3, .int .i64 a1_4, .int .i64 a1_5] 75 (0, 0)) (pB126_ BK247.out)) (below_size z126_3)); have n1_ := Aside0.mk (blk_below (g := gb247) (o := .cells #[.int .i64 a1_0, .int .i64 a1_1, .int .i64 a1_2, .int .i64 a1_3, .int .i64 a1_4, .int .i64 a1_5] 75 (0, 0)) (pB126_ BK247.out) hb); have n2_ := Aside0.mk (below_step z126_3 hb); clear BK247; clear HB; have HO252 := n0_; have BK247 := n1_; have HB := n2_; clear n0_ n1_ n2_; (try clear hb); (try clear hb2); (try clear hk); (try clear hi); (try clear ho0)))
        go_ret2
        exact ⟨_, by first | rfl | (simp [errW_none, errW_some] <;> rfl) | (simp [*, errW_none, errW_some] <;> rfl), by (with_reducible repeat (first | apply Kd.R_alloc | apply Kd.R_drewN | apply Kd.R_drew)); exact Kd.R_mono HO252.out (fun _ hk => trivial), by repeat (first | (with_reducible first | exact HB.out | apply bA_ | apply bN_ | apply bD_ | refine bS_ ?_ GE247.out) | exact HB.out)⟩
      · replace c12 := Bool.eq_false_iff.mpr c12
        subst c12
        have H1 : (spec_PutFact.l0 kj2 l0 (([] : List (S75))) false 0 a1_0 a1_1 a1_2 a1_3 a1_4 a1_5) = some (r1, r2) := by rw [if_neg (show ¬ (false = true) by decide)] at H; exact H
        clear H
        have H := H1
        clear H1
        obtain ⟨y253, hy253⟩ : ∃ y_ : List (S75), y_ = (([] : List (S75))) := ⟨_, rfl⟩
        replace H : (spec_PutFact.l0 kj2 l0 y253 false 0 a1_0 a1_1 a1_2 a1_3 a1_4 a1_5) = some (r1, r2) := by first | (rw [hy253]; with_reducible exact H) | (have H2_ := (Option.bind_some _ _).symm.trans H; rw [hy253]; with_reducible exact H2_) | (have H2_ := (Option.bind_some _ _).symm.trans H; with_reducible exact H2_) | with_reducible exact H | (rw [hy253]; exact H) | exact H
        have Ny253 := Aside0.mk hy253
        clear hy253
        have H' := Aside0.mk H
        clear H
        go_wp2_with (first | ((with_reducible refine gate_dst (N := 20) rfl ?_); refine Kd.R_lit k75 _ 75 ?hg (N := 20) ?hd (xs := ([] : List (S75))) (inner := []) (ok := fun _ => True) (okp := fun _ => True) ?hr ?hp (fun _ hk => hk) trivial (Below.refl _ _) (Nat.le_refl _) (by simp) ?_; (case hd => rfl); (case hg => rfl); (case hr => first | (go_simp; done) | (go_simp; rfl)); (case hp => exact (Reps.none _ _)); intro v254 w15 ho16 hb hg_ hnew_; clear hg_ hnew_; (first | rw [← Ny253.out] at ho16 | (simp only [Int.reduceToNat] at ho16; rw [← Ny253.out] at ho16)); have n0_ := Aside0.mk (Kd.R_lower (Kd.R_newB ho16 (g := gb247) (o := .cells #[.int .i64 a1_0, .int .i64 a1_1, .int .i64 a1_2, .int .i64 a1_3, .int .i64 a1_4, .int .i64 a1_5] 75 (0, 0)) (pB126_ BK247.out)) (below_size z126_3)); have n1_ := Aside0.mk (blk_below (g := gb247) (o := .cells #[.int .i64 a1_0, .int .i64 a1_1, .int .i64 a1_2, .int .i64 a1_3, .int .i64 a1_4, .int .i64 a1_5] 75 (0, 0)) (pB126_ BK247.out) hb); have n2_ := Aside0.mk (below_step z126_3 hb); clear BK247; clear HB; have HO255 := n0_; have BK247 := n1_; have HB := n2_; clear n0_ n1_ n2_; clear hb ho16))
        go_loopg [6, 7, 8] kj2 (fun kq v6 v7 v8 w' => ∃ (x6_2 : List (S75)) (x7_2 : Bool) (x8_2 : Int), v7 = .bool x7_2 ∧ v8 = .int .i64 x8_2 ∧ Aside0 (spec_PutFact.l0 kq l0 x6_2 x7_2 x8_2 a1_0 a1_1 a1_2 a1_3 a1_4 a1_5 = some (r1, r2)) ∧ Aside0 (kq ≤ kj2) ∧ Aside0 (Kd.R k75 75 w' w.heap.size (fun k_ => k_ ≠ gb247) v6 x6_2) ∧ Aside0 (w'.heap[gb247]? = some (.cells #[.int .i64 a1_0, .int .i64 a1_1, .int .i64 a1_2, .int .i64 a1_3, .int .i64 a1_4, .int .i64 a1_5] 75 (0, 0))) ∧ Aside0 (Below w.heap.size w w'))
        case atStart => exact ⟨(y253), (false), (0), z126_9, z126_9, H', ⟨Nat.le_refl _⟩, ⟨by (with_reducible repeat (first | apply Kd.R_alloc | apply Kd.R_drewN | apply Kd.R_drew)); exact Kd.R_mono HO255.out (fun _ hk => hk.2)⟩, ⟨by (with_reducible repeat (first | refine blk_drewN ?_ _ | refine blk_drew ?_ | refine blk_alloc ?_ _)); exact BK247.out⟩, ⟨by repeat (first | (with_reducible first | exact HB.out | apply bA_ | apply bN_ | apply bD_ | refine bS_ ?_ GE247.out) | exact HB.out)⟩⟩
        case round =>
          clear H'
          try clear c1
          try clear p2
          try clear c6
          try clear c12
          try clear c13
          try clear hcz9_0
          try clear hcz9_1
          try clear hcz9_2
          try clear hcz9_3
          try clear hcz9_4
          try clear hcz9_5
          try clear hfz9_0
          try clear hfz9_1
          try clear hfz9_2
          try clear hfz9_3
          try clear hfz9_4
          try clear hfz9_5
          try clear p2
          obtain ⟨x6_2, x7_2, x8_2, rfl, rfl, HA, HK2, HO_6, BK247, HB⟩ := hrel
          cases gk with
          | zero => exact absurd HA.out (by simp [spec_PutFact.l0])
          | succ k2 =>
            have H := HA.out
            clear HA
            simp only [spec_PutFact.l0] at H
            by_cases c17 : x8_2 < (l0.length : Int)
            · rw [if_pos c17] at H
              have c17b0 : decide (x8_2 < (l0.length : Int)) = true := decide_eq_true c17
              clear c17
              have HC18 := Aside0.mk H
              clear H
              go_upto_region 8 with (fail)
              go_cut [36] (fun v36 wc => ∃ (kq : Nat) (x36_17 : Bool), v36 = .bool x36_17 ∧ Aside0 (spec_PutFact.j2 kq l0 x6_2 x7_2 x8_2 x36_17 a1_0 a1_1 a1_2 a1_3 a1_4 a1_5 = some (r1, r2)) ∧ Aside0 (kq ≤ k2) ∧ Aside0 (Kd.R k75 75 wc w.heap.size (fun k_ => k_ ≠ gb247) u6 x6_2) ∧ Aside0 (wc.heap[gb247]? = some (.cells #[.int .i64 a1_0, .int .i64 a1_1, .int .i64 a1_2, .int .i64 a1_3, .int .i64 a1_4, .int .i64 a1_5] 75 (0, 0))) ∧ Aside0 (Below w.heap.size w wc))
              case first =>
                have H := HC18.out
                clear HC18
                by_cases c19 : x7_2 = true
                · subst c19
                  have H1 : (spec_PutFact.j2 k2 l0 x6_2 true x8_2 false a1_0 a1_1 a1_2 a1_3 a1_4 a1_5) = some (r1, r2) := by rw [if_pos rfl] at H; exact H
                  clear H
                  have H := H1
                  clear H1
                  have H' := Aside0.mk H
                  clear H
                  try go_wp2
                  have n0_ := Aside0.mk (Kd.R_drew HO_6.out)
                  have n1_ := Aside0.mk (blk_drew BK247.out)
                  have n2_ := Aside0.mk (bD_ HB.out)
                  clear HO_6
                  clear BK247
                  clear HB
                  have HO_6 := n0_
                  have BK247 := n1_
                  have HB := n2_
                  clear n0_ n1_ n2_
                  refine start_ (n := 10) (S := fun w' => True) (ds := []) #[false, false, false, false, false, false, false, false, false, false] z126_14 rfl rfl trivial (fun hHeld => ?_); refine with_tabW spec_PutFact.tab8 spec_PutFact.bits8 (fun HT_ HW_ => ?_)
                  generalize wr.drew = w20 at HO_6 BK247 HB hHeld ⊢
                  refine pure_ (i := 0) (N := some 27) (v := ?_) (a' := ?_) #[true, false, false, false, false, false, false, false, false, false] rfl rfl (any_of HT_.out z126_14) (fun _ _ _ h => h) (Or.inl ⟨by rfl, ?_⟩) ?_ ?_
                  rotate_left
                  · intro w'
                    go_simp
                    with_reducible rfl
                  rotate_left
                  · simp only [Act.put, List.setIfInBounds_toArray, List.set_cons_zero, List.set_cons_succ, i64_w, i32_w]
                    rfl
                  refine pure_ (i := 1) (N := some 28) (v := ?_) (a' := ?_) #[true, true, false, false, false, false, false, false, false, false] rfl rfl (any_of HT_.out z126_14) (fun _ _ _ h => h) (Or.inl ⟨by rfl, ?_⟩) ?_ ?_
                  rotate_left
                  · intro w'
                    go_simp
                    with_reducible rfl
                  rotate_left
                  · simp only [Act.put, List.setIfInBounds_toArray, List.set_cons_zero, List.set_cons_succ, i64_w, i32_w]
                    rfl
                  refine pure_ (i := 2) (N := some 29) (v := ?_) (a' := ?_) #[true, true, true, false, false, false, false, false, false, false] rfl rfl (any_of HT_.out z126_14) (fun _ _ _ h => h) (Or.inl ⟨by rfl, ?_⟩) ?_ ?_
                  rotate_left
                  · intro w'
                    go_simp
                    with_reducible rfl
                  rotate_left
                  · simp only [Act.put, List.setIfInBounds_toArray, List.set_cons_zero, List.set_cons_succ, i64_w, i32_w]
                    rfl
                  refine pure_ (i := 3) (N := some 30) (v := undef) (a' := ?_) #[true, true, true, true, false, false, false, false, false, false] rfl rfl (any_of HT_.out z126_14) (fun _ _ _ h => h) (Or.inr ⟨by rfl, rfl⟩) ?_ ?_
                  rotate_left
                  · simp only [Act.put, List.setIfInBounds_toArray, List.set_cons_zero, List.set_cons_succ, i64_w, i32_w]
                    rfl
                  refine pure_ (i := 4) (N := some 31) (v := undef) (a' := ?_) #[true, true, true, true, true, false, false, false, false, false] rfl rfl (any_of HT_.out z126_14) (fun _ _ _ h => h) (Or.inr ⟨by rfl, rfl⟩) ?_ ?_
                  rotate_left
                  · simp only [Act.put, List.setIfInBounds_toArray, List.set_cons_zero, List.set_cons_succ, i64_w, i32_w]
                    rfl
                  refine pure_ (i := 5) (N := some 32) (v := undef) (a' := ?_) #[true, true, true, true, true, true, false, false, false, false] rfl rfl (any_of HT_.out z126_14) (fun _ _ _ h => h) (Or.inr ⟨by rfl, rfl⟩) ?_ ?_
                  rotate_left
                  · simp only [Act.put, List.setIfInBounds_toArray, List.set_cons_zero, List.set_cons_succ, i64_w, i32_w]
                    rfl
                  refine pure_ (i := 6) (N := some 33) (v := undef) (a' := ?_) #[true, true, true, true, true, true, true, false, false, false] rfl rfl (any_of HT_.out z126_14) (fun _ _ _ h => h) (Or.inr ⟨by rfl, rfl⟩) ?_ ?_
                  rotate_left
                  · simp only [Act.put, List.setIfInBounds_toArray, List.set_cons_zero, List.set_cons_succ, i64_w, i32_w]
                    rfl
                  refine pure_ (i := 7) (N := some 34) (v := undef) (a' := ?_) #[true, true, true, true, true, true, true, true, false, false] rfl rfl (any_of HT_.out z126_14) (fun _ _ _ h => h) (Or.inr ⟨by rfl, rfl⟩) ?_ ?_
                  rotate_left
                  · simp only [Act.put, List.setIfInBounds_toArray, List.set_cons_zero, List.set_cons_succ, i64_w, i32_w]
                    rfl
                  refine pure_ (i := 8) (N := some 35) (v := undef) (a' := ?_) #[true, true, true, true, true, true, true, true, true, false] rfl rfl (any_of HT_.out z126_14) (fun _ _ _ h => h) (Or.inr ⟨by rfl, rfl⟩) ?_ ?_
                  rotate_left
                  · simp only [Act.put, List.setIfInBounds_toArray, List.set_cons_zero, List.set_cons_succ, i64_w, i32_w]
                    rfl
                  refine pure_ (i := 9) (N := some 36) (v := ?_) (a' := ?_) #[true, true, true, true, true, true, true, true, true, true] rfl rfl (any_of HT_.out z126_14) (fun _ _ _ h => h) (Or.inl ⟨by rfl, ?_⟩) ?_ ?_
                  rotate_left
                  · intro w'
                    go_simp
                    with_reducible rfl
                  rotate_left
                  · simp only [Act.put, List.setIfInBounds_toArray, List.set_cons_zero, List.set_cons_succ, i64_w, i32_w]
                    rfl
                  refine done_ (done_of HT_.out z126_14) ?_
                  try go_wp2
                  go_meet
                  case rel => exact ⟨_, (false), z126_9, H', ⟨by have := HJ2.out; have := HK2.out; first | omega | exact Nat.le_refl _⟩, ⟨by (with_reducible repeat (first | apply Kd.R_alloc | apply Kd.R_drewN | apply Kd.R_drew)); exact HO_6.out⟩, ⟨by (with_reducible repeat (first | refine blk_drewN ?_ _ | refine blk_drew ?_ | refine blk_alloc ?_ _)); exact BK247.out⟩, ⟨by repeat (first | (with_reducible first | exact HB.out | apply bA_ | apply bN_ | apply bD_ | refine bS_ ?_ GE247.out) | exact HB.out)⟩⟩
                · replace c19 := Bool.eq_false_iff.mpr c19
                  subst c19
                  have H1 : (if 0 ≤ x8_2 then ((spec_FactBefore.f a1_0 a1_1 a1_2 a1_3 a1_4 a1_5 ((rd_T75 l0 x8_2).f0) ((rd_T75 l0 x8_2).f1) ((rd_T75 l0 x8_2).f2) ((rd_T75 l0 x8_2).f3) ((rd_T75 l0 x8_2).f4) ((rd_T75 l0 x8_2).f5)).bind fun t257 => (spec_PutFact.j2 k2 l0 x6_2 false x8_2 t257 a1_0 a1_1 a1_2 a1_3 a1_4 a1_5)) else (none)) = some (r1, r2) := by rw [if_neg (show ¬ (false = true) by decide)] at H; exact H
                  clear H
                  have H := H1
                  clear H1
                  by_cases c21 : 0 ≤ x8_2
                  · rw [if_pos c21] at H
                    have c21b0 : decide (0 ≤ x8_2) = true := decide_eq_true c21
                    clear c21
                    (first | rw [c21b0] | (simp only [i64_w, i32_w]; rw [c21b0]) | skip)
                    replace H := Option.bind_eq_some_iff.mp H
                    obtain ⟨t257, A220, H⟩ := H
                    replace H : (spec_PutFact.j2 k2 l0 x6_2 false x8_2 t257 a1_0 a1_1 a1_2 a1_3 a1_4 a1_5) = some (r1, r2) := H
                    have A22 := Aside0.mk A220
                    clear A220
                    have H' := Aside0.mk H
                    clear H
                    try go_wp2
                    have n0_ := Aside0.mk (Kd.R_drew HO_6.out)
                    have n1_ := Aside0.mk (blk_drew BK247.out)
                    have n2_ := Aside0.mk (bD_ HB.out)
                    clear HO_6
                    clear BK247
                    clear HB
                    have HO_6 := n0_
                    have BK247 := n1_
                    have HB := n2_
                    clear n0_ n1_ n2_
                    have p256 : 0 ≤ (x8_2 : Int) := of_decide_eq_true z126_11
                    have q256 : x8_2 < (l0.length : Int) := of_decide_eq_true z126_11
                    obtain ⟨ad256, e256, hx256_0, hx256_1, hx256_2, hx256_3, hx256_4, hx256_5⟩ := at_T75 HR0.out x8_2 p256 q256
                    have hw256_5 := hx256_5
                    have hw256_4 := hx256_4
                    have hw256_3 := hx256_3
                    have hw256_2 := hx256_2
                    have hw256_1 := hx256_1
                    have hw256_0 := hx256_0
                    cases e256
                    replace hx256_0 := (HB.out.cell (World.block_lt_of_cell? w _ hx256_0)).trans hx256_0
                    replace hx256_1 := (HB.out.cell (World.block_lt_of_cell? w _ hx256_1)).trans hx256_1
                    replace hx256_2 := (HB.out.cell (World.block_lt_of_cell? w _ hx256_2)).trans hx256_2
                    replace hx256_3 := (HB.out.cell (World.block_lt_of_cell? w _ hx256_3)).trans hx256_3
                    replace hx256_4 := (HB.out.cell (World.block_lt_of_cell? w _ hx256_4)).trans hx256_4
                    replace hx256_5 := (HB.out.cell (World.block_lt_of_cell? w _ hx256_5)).trans hx256_5
                    replace p256 := eq_true p256
                    replace q256 := eq_true q256
                    refine start_ (n := 10) (S := fun w' => w'.cell? ⟨gb247, 0, none⟩ = some (.int .i64 a1_0) ∧ w'.cell? ⟨gb247, 1, none⟩ = some (.int .i64 a1_1) ∧ w'.cell? ⟨gb247, 2, none⟩ = some (.int .i64 a1_2) ∧ w'.cell? ⟨gb247, 3, none⟩ = some (.int .i64 a1_3) ∧ w'.cell? ⟨gb247, 4, none⟩ = some (.int .i64 a1_4) ∧ w'.cell? ⟨gb247, 5, none⟩ = some (.int .i64 a1_5) ∧ w'.cell? (ad256.add ((x8_2).toNat * 6)) = some (.int .i64 ((rd_T75 l0 x8_2).f0)) ∧ w'.cell? ⟨(ad256.add ((x8_2).toNat * 6)).block, (ad256.add ((x8_2).toNat * 6)).off + 1, none⟩ = some (.int .i64 ((rd_T75 l0 x8_2).f1)) ∧ w'.cell? ⟨(ad256.add ((x8_2).toNat * 6)).block, (ad256.add ((x8_2).toNat * 6)).off + 2, none⟩ = some (.int .i64 ((rd_T75 l0 x8_2).f2)) ∧ w'.cell? ⟨(ad256.add ((x8_2).toNat * 6)).block, (ad256.add ((x8_2).toNat * 6)).off + 3, none⟩ = some (.int .i64 ((rd_T75 l0 x8_2).f3)) ∧ w'.cell? ⟨(ad256.add ((x8_2).toNat * 6)).block, (ad256.add ((x8_2).toNat * 6)).off + 4, none⟩ = some (.int .i64 ((rd_T75 l0 x8_2).f4)) ∧ w'.cell? ⟨(ad256.add ((x8_2).toNat * 6)).block, (ad256.add ((x8_2).toNat * 6)).off + 5, none⟩ = some (.int .i64 ((rd_T75 l0 x8_2).f5))) (ds := []) #[false, false, false, false, false, false, false, false, false, false] z126_14 rfl rfl ⟨(bC_ BK247.out 0).trans rfl, (bC_ BK247.out 1).trans rfl, (bC_ BK247.out 2).trans rfl, (bC_ BK247.out 3).trans rfl, (bC_ BK247.out 4).trans rfl, (bC_ BK247.out 5).trans rfl, ((HB.out.cell (World.block_lt_of_cell? w _ hw256_0)).trans hw256_0), ((HB.out.cell (World.block_lt_of_cell? w _ hw256_1)).trans hw256_1), ((HB.out.cell (World.block_lt_of_cell? w _ hw256_2)).trans hw256_2), ((HB.out.cell (World.block_lt_of_cell? w _ hw256_3)).trans hw256_3), ((HB.out.cell (World.block_lt_of_cell? w _ hw256_4)).trans hw256_4), ((HB.out.cell (World.block_lt_of_cell? w _ hw256_5)).trans hw256_5)⟩ (fun hHeld => ?_); refine with_tabW spec_PutFact.tab8 spec_PutFact.bits8 (fun HT_ HW_ => ?_)
                    generalize wr.drew = w23 at HO_6 BK247 HB hx256_0 hx256_1 hx256_2 hx256_3 hx256_4 hx256_5 hHeld ⊢
                    refine pure_ (i := 0) (N := some 27) (v := ?_) (a' := ?_) #[true, false, false, false, false, false, false, false, false, false] rfl rfl (any_of HT_.out z126_14) (fun _ _ _ h => h) (Or.inl ⟨by rfl, ?_⟩) ?_ ?_
                    rotate_left
                    · intro w'
                      go_simp
                      with_reducible rfl
                    rotate_left
                    · simp only [Act.put, List.setIfInBounds_toArray, List.set_cons_zero, List.set_cons_succ, i64_w, i32_w]
                      rfl
                    refine pure_ (i := 1) (N := some 28) (v := ?_) (a' := ?_) #[true, true, false, false, false, false, false, false, false, false] rfl rfl (any_of HT_.out z126_14) (fun _ _ _ h => h) (Or.inl ⟨by rfl, ?_⟩) ?_ ?_
                    rotate_left
                    · intro w'
                      go_simp
                      with_reducible rfl
                    rotate_left
                    · simp only [Act.put, List.setIfInBounds_toArray, List.set_cons_zero, List.set_cons_succ, i64_w, i32_w]
                      rfl
                    refine pure_ (i := 2) (N := some 29) (v := ?_) (a' := ?_) #[true, true, true, false, false, false, false, false, false, false] rfl rfl (any_of HT_.out z126_14) (fun _ _ _ h => h) (Or.inl ⟨by rfl, ?_⟩) ?_ ?_
                    rotate_left
                    · intro w'
                      go_simp
                      with_reducible rfl
                    rotate_left
                    · simp only [Act.put, List.setIfInBounds_toArray, List.set_cons_zero, List.set_cons_succ, i64_w, i32_w]
                      rfl
                    refine pure_ (i := 4) (N := some 31) (v := ?_) (a' := ?_) #[true, true, true, false, true, false, false, false, false, false] rfl rfl (any_of HT_.out z126_14) (fun _ _ _ h => h) (Or.inl ⟨by rfl, ?_⟩) ?_ ?_
                    rotate_left
                    · intro w'
                      go_simp
                      with_reducible rfl
                    rotate_left
                    · simp only [Act.put, List.setIfInBounds_toArray, List.set_cons_zero, List.set_cons_succ, i64_w, i32_w]
                      rfl
                    refine pure_ (i := 5) (N := some 32) (v := ?_) (a' := ?_) #[true, true, true, false, true, true, false, false, false, false] rfl rfl (any_of HT_.out z126_14) (fun _ _ _ h => h) (Or.inl ⟨by rfl, ?_⟩) ?_ ?_
                    rotate_left
                    · intro w'
                      go_simp
                      with_reducible rfl
                    rotate_left
                    · simp only [Act.put, List.setIfInBounds_toArray, List.set_cons_zero, List.set_cons_succ, i64_w, i32_w]
                      rfl
                    refine pure_ (i := 6) (N := some 33) (v := ?_) (a' := ?_) #[true, true, true, false, true, true, true, false, false, false] rfl rfl (any_of HT_.out z126_14) (fun _ _ _ h => h) (Or.inl ⟨by rfl, ?_⟩) ?_ ?_
                    rotate_left
                    · intro w'
                      go_simp
                      with_reducible rfl
                    rotate_left
                    · simp only [Act.put, List.setIfInBounds_toArray, List.set_cons_zero, List.set_cons_succ, i64_w, i32_w]
                      rfl
                    refine take_ (i := 3) (N := some 30) (v := ?_) (a' := ?_) #[true, true, true, true, true, true, true, false, false, false] rfl rfl (take_ofW HT_.out HW_.out z126_14) (fun _ _ _ h => h) (Or.inl ⟨by rfl, ?_⟩) hHeld ?_ ?_
                    rotate_left
                    · rintro w' ⟨s0, s1, s2, s3, s4, s5, s6, s7, s8, s9, s10, s11⟩
                      go_simp
                      with_reducible rfl
                    rotate_left
                    · simp only [Act.put, List.setIfInBounds_toArray, List.set_cons_zero, List.set_cons_succ, i64_w, i32_w]
                      rfl
                    refine take_ (i := 7) (N := some 34) (v := ?_) (a' := ?_) #[true, true, true, true, true, true, true, true, false, false] rfl rfl (take_ofW HT_.out HW_.out z126_14) (fun _ _ _ h => h) (Or.inl ⟨by rfl, ?_⟩) hHeld ?_ ?_
                    rotate_left
                    · rintro w' ⟨s0, s1, s2, s3, s4, s5, s6, s7, s8, s9, s10, s11⟩
                      go_simp
                      with_reducible rfl
                    rotate_left
                    · simp only [Act.put, List.setIfInBounds_toArray, List.set_cons_zero, List.set_cons_succ, i64_w, i32_w]
                      rfl
                    refine one_ (i := 8) (N := some 35) #[true, true, true, true, true, true, true, true, true, false] rfl rfl (one_of HT_.out z126_14) (by decide) (fun K hK => ?_)
                    refine goes_ Try.func139 z126_14 rfl #[.agg #[.int .i64 a1_0, .int .i64 a1_1, .int .i64 a1_2, .int .i64 a1_3, .int .i64 a1_4, .int .i64 a1_5], .agg #[.int .i64 ((rd_T75 l0 x8_2).f0), .int .i64 ((rd_T75 l0 x8_2).f1), .int .i64 ((rd_T75 l0 x8_2).f2), .int .i64 ((rd_T75 l0 x8_2).f3), .int .i64 ((rd_T75 l0 x8_2).f4), .int .i64 ((rd_T75 l0 x8_2).f5)]] (by rfl) rfl rfl z126_6 ?_
                    with_reducible refine (spec_FactBefore.calls a1_0 a1_1 a1_2 a1_3 a1_4 a1_5 ((rd_T75 l0 x8_2).f0) ((rd_T75 l0 x8_2).f1) ((rd_T75 l0 x8_2).f2) ((rd_T75 l0 x8_2).f3) ((rd_T75 l0 x8_2).f4) ((rd_T75 l0 x8_2).f5) t257 _ A22.out).mono ?_
                    rintro e w24 ⟨rfl, hb⟩
                    refine ⟨_, rfl, ?_⟩
                    have n0_ := Aside0.mk (Kd.R_below (pR126_ HO_6.out) hb)
                    have n1_ := Aside0.mk (blk_below (g := gb247) (o := .cells #[.int .i64 a1_0, .int .i64 a1_1, .int .i64 a1_2, .int .i64 a1_3, .int .i64 a1_4, .int .i64 a1_5] 75 (0, 0)) (pB126_ BK247.out) hb)
                    have n2_ := Aside0.mk (below_step z126_3 hb)
                    clear HO_6
                    clear BK247
                    clear HB
                    have HO_6 := n0_
                    have BK247 := n1_
                    have HB := n2_
                    clear n0_ n1_ n2_
                    (try clear hb)
                    (try clear hb2)
                    (try clear hk)
                    (try clear hi)
                    refine hK.out _ _ ⟨(bC_ BK247.out 0).trans rfl, (bC_ BK247.out 1).trans rfl, (bC_ BK247.out 2).trans rfl, (bC_ BK247.out 3).trans rfl, (bC_ BK247.out 4).trans rfl, (bC_ BK247.out 5).trans rfl, ((HB.out.cell (World.block_lt_of_cell? w _ hw256_0)).trans hw256_0), ((HB.out.cell (World.block_lt_of_cell? w _ hw256_1)).trans hw256_1), ((HB.out.cell (World.block_lt_of_cell? w _ hw256_2)).trans hw256_2), ((HB.out.cell (World.block_lt_of_cell? w _ hw256_3)).trans hw256_3), ((HB.out.cell (World.block_lt_of_cell? w _ hw256_4)).trans hw256_4), ((HB.out.cell (World.block_lt_of_cell? w _ hw256_5)).trans hw256_5)⟩ (fun hHeld => ?_)
                    clear hK K
                    refine norm_ (a' := ?_) ?_ ?_
                    rotate_left
                    · show Act.put _ (some 35) _ = _
                      simp only [Act.put, List.setIfInBounds_toArray, List.set_cons_zero, List.set_cons_succ, i64_w, i32_w]
                      rfl
                    refine pure_ (i := 9) (N := some 36) (v := ?_) (a' := ?_) #[true, true, true, true, true, true, true, true, true, true] rfl rfl (any_of HT_.out z126_14) (fun _ _ _ h => h) (Or.inl ⟨by rfl, ?_⟩) ?_ ?_
                    rotate_left
                    · intro w'
                      go_simp
                      with_reducible rfl
                    rotate_left
                    · simp only [Act.put, List.setIfInBounds_toArray, List.set_cons_zero, List.set_cons_succ, i64_w, i32_w]
                      rfl
                    refine done_ (done_of HT_.out z126_14) ?_
                    try go_wp2
                    go_meet
                    case rel => exact ⟨_, (t257), z126_9, H', ⟨by have := HJ2.out; have := HK2.out; first | omega | exact Nat.le_refl _⟩, ⟨by (with_reducible repeat (first | apply Kd.R_alloc | apply Kd.R_drewN | apply Kd.R_drew)); exact HO_6.out⟩, ⟨by (with_reducible repeat (first | refine blk_drewN ?_ _ | refine blk_drew ?_ | refine blk_alloc ?_ _)); exact BK247.out⟩, ⟨by repeat (first | (with_reducible first | exact HB.out | apply bA_ | apply bN_ | apply bD_ | refine bS_ ?_ GE247.out) | exact HB.out)⟩⟩
                  · rw [if_neg c21] at H
                    exact absurd H (by simp)
              case rest =>
                clear HC18
                try clear c1
                try clear c2
                try clear p2
                try clear q2
                try clear hx2
                try clear c6
                try clear c12
                try clear c13
                try clear c17
                try clear c17b0
                try clear c19
                try clear c21
                try clear c21b0
                try clear hcz9_0
                try clear hcz9_1
                try clear hcz9_2
                try clear hcz9_3
                try clear hcz9_4
                try clear hcz9_5
                try clear hfz9_0
                try clear hfz9_1
                try clear hfz9_2
                try clear hfz9_3
                try clear hfz9_4
                try clear hfz9_5
                try clear hx256_0
                try clear hx256_1
                try clear hx256_2
                try clear hx256_3
                try clear hx256_4
                try clear hx256_5
                try clear p2
                try clear p256
                try clear q256
                obtain ⟨kq, x36_17, rfl, HA, HJ17, HO_6, BK247, HB⟩ := hcut
                cases kq with
                | zero => exact absurd HA.out (by simp [spec_PutFact.j2])
                | succ kj17 =>
                  have H := HA.out
                  clear HA
                  simp only [spec_PutFact.j2] at H
                  have HC25 := Aside0.mk H
                  clear H
                  go_upto_if 36 with (fail)
                  go_cut [6, 7] (fun v6 v7 wc => ∃ (kq : Nat) (x6_24 : List (S75)) (x7_24 : Bool), v7 = .bool x7_24 ∧ Aside0 (spec_PutFact.j3 kq l0 x6_24 x7_24 x8_2 a1_0 a1_1 a1_2 a1_3 a1_4 a1_5 = some (r1, r2)) ∧ Aside0 (kq ≤ kj17) ∧ Aside0 (Kd.R k75 75 wc w.heap.size (fun k_ => k_ ≠ gb247) v6 x6_24) ∧ Aside0 (wc.heap[gb247]? = some (.cells #[.int .i64 a1_0, .int .i64 a1_1, .int .i64 a1_2, .int .i64 a1_3, .int .i64 a1_4, .int .i64 a1_5] 75 (0, 0))) ∧ Aside0 (Below w.heap.size w wc))
                  case first =>
                    have H := HC25.out
                    clear HC25
                    by_cases c26 : x36_17 = true
                    · subst c26
                      have H1 : (if x6_2.length < 2932031007402 then (spec_PutFact.j3 kj17 l0 (x6_2 ++ [(⟨a1_0, a1_1, a1_2, a1_3, a1_4, a1_5⟩ : S75)]) true x8_2 a1_0 a1_1 a1_2 a1_3 a1_4 a1_5) else (none)) = some (r1, r2) := by rw [if_pos rfl] at H; exact H
                      clear H
                      have H := H1
                      clear H1
                      by_cases c27 : x6_2.length < 2932031007402
                      · rw [if_pos c27] at H
                        have LMc27 := Aside0.mk c27
                        clear c27
                        obtain ⟨y258, hy258⟩ : ∃ y_ : List (S75), y_ = (x6_2 ++ [(⟨a1_0, a1_1, a1_2, a1_3, a1_4, a1_5⟩ : S75)]) := ⟨_, rfl⟩
                        replace H : (spec_PutFact.j3 kj17 l0 y258 true x8_2 a1_0 a1_1 a1_2 a1_3 a1_4 a1_5) = some (r1, r2) := by first | (rw [hy258]; with_reducible exact H) | (have H2_ := (Option.bind_some _ _).symm.trans H; rw [hy258]; with_reducible exact H2_) | (have H2_ := (Option.bind_some _ _).symm.trans H; with_reducible exact H2_) | with_reducible exact H | (rw [hy258]; exact H) | exact H
                        have Ny258 := Aside0.mk hy258
                        clear hy258
                        have H' := Aside0.mk H
                        clear H
                        have hcz28_0 : wc.cell? ⟨gb247, 0, none⟩ = some (.int .i64 a1_0) := (bC_ BK247.out 0).trans rfl
                        have hcz28_1 : wc.cell? ⟨gb247, 1, none⟩ = some (.int .i64 a1_1) := (bC_ BK247.out 1).trans rfl
                        have hcz28_2 : wc.cell? ⟨gb247, 2, none⟩ = some (.int .i64 a1_2) := (bC_ BK247.out 2).trans rfl
                        have hcz28_3 : wc.cell? ⟨gb247, 3, none⟩ = some (.int .i64 a1_3) := (bC_ BK247.out 3).trans rfl
                        have hcz28_4 : wc.cell? ⟨gb247, 4, none⟩ = some (.int .i64 a1_4) := (bC_ BK247.out 4).trans rfl
                        have hcz28_5 : wc.cell? ⟨gb247, 5, none⟩ = some (.int .i64 a1_5) := (bC_ BK247.out 5).trans rfl
                        have hfz28_0 := bF_ BK247.out 0
                        have hfz28_1 := bF_ BK247.out 1
                        have hfz28_2 := bF_ BK247.out 2
                        have hfz28_3 := bF_ BK247.out 3
                        have hfz28_4 := bF_ BK247.out 4
                        have hfz28_5 := bF_ BK247.out 5
                        go_wp2_with (first | ((with_reducible refine gate_builtin (b := .append) (xs := #[.tmp 37, .tmp 39]) rfl ?_); at_builtin; refine Kd.R_append k75 (w0 := w) w.heap.size rfl (.tmp 37) (.tmp 39) 30 75 (.agg #[(.int .i64 0), (.int .i64 0), (.int .i64 0), (.int .i64 0), (.int .i64 0), (.int .i64 0)]) 48 rfl Try.underlying30 info75 rfl (by decide) (by omega) u6 x6_2 (⟨a1_0, a1_1, a1_2, a1_3, a1_4, a1_5⟩ : S75) [.int .i64 a1_0, .int .i64 a1_1, .int .i64 a1_2, .int .i64 a1_3, .int .i64 a1_4, .int .i64 a1_5] (fun k_ => k_ ≠ gb247) (fun _ => False) rfl rfl ?aP (fun _ hk => hk.elim) ?aF ?aO ?aB ?aS ?aL ?_; (case aP => exact k75_mkM _ _ _ (⟨a1_0, a1_1, a1_2, a1_3, a1_4, a1_5⟩ : S75)); (case aB => exact z126_3); (case aF => exact (fun k_ hk => Kd.freshB (g := gb247) (o := .cells #[.int .i64 a1_0, .int .i64 a1_1, .int .i64 a1_2, .int .i64 a1_3, .int .i64 a1_4, .int .i64 a1_5] 75 (0, 0)) (pB126_ BK247.out) k_ hk)); (case aO => exact (pR126_ HO_6.out)); (case aS => exact (below_size z126_3)); (case aL => have := LMc27.out; omega); intro v259 w29 ho hb hg hat; rw [← Ny258.out] at ho; have n0_ := Aside0.mk (blk_grown (g := gb247) (o := .cells #[.int .i64 a1_0, .int .i64 a1_1, .int .i64 a1_2, .int .i64 a1_3, .int .i64 a1_4, .int .i64 a1_5] 75 (0, 0)) (pB126_ BK247.out) hg (Kd.R_away HO_6.out (fun _ hk => hk))); have n1_ := Aside0.mk (hb); have n2_ := Aside0.mk (ho); clear BK247; clear HB; clear HO_6; have BK247 := n0_; have HB := n1_; have HO260 := n2_; clear n0_ n1_ n2_; clear ho hb hg hat))
                        go_meet
                        case rel => exact ⟨_, (y258), (true), z126_9, H', ⟨by have := HJ2.out; have := HK2.out; have := HJ17.out; first | omega | exact Nat.le_refl _⟩, ⟨by (with_reducible repeat (first | apply Kd.R_alloc | apply Kd.R_drewN | apply Kd.R_drew)); exact HO260.out⟩, ⟨by (with_reducible repeat (first | refine blk_drewN ?_ _ | refine blk_drew ?_ | refine blk_alloc ?_ _)); exact BK247.out⟩, ⟨by repeat (first | (with_reducible first | exact HB.out | apply bA_ | apply bN_ | apply bD_ | refine bS_ ?_ GE247.out) | exact HB.out)⟩⟩
                      · rw [if_neg c27] at H
                        exact absurd H (by simp)
                    · replace c26 := Bool.eq_false_iff.mpr c26
                      subst c26
                      have H1 : (spec_PutFact.j3 kj17 l0 x6_2 x7_2 x8_2 a1_0 a1_1 a1_2 a1_3 a1_4 a1_5) = some (r1, r2) := by rw [if_neg (show ¬ (false = true) by decide)] at H; exact H
                      clear H
                      have H := H1
                      clear H1
                      have H' := Aside0.mk H
                      clear H
                      go_wp2
                      go_meet
                      case rel => exact ⟨_, (x6_2), (x7_2), z126_9, H', ⟨by have := HJ2.out; have := HK2.out; have := HJ17.out; first | omega | exact Nat.le_refl _⟩, ⟨by (with_reducible repeat (first | apply Kd.R_alloc | apply Kd.R_drewN | apply Kd.R_drew)); exact HO_6.out⟩, ⟨by (with_reducible repeat (first | refine blk_drewN ?_ _ | refine blk_drew ?_ | refine blk_alloc ?_ _)); exact BK247.out⟩, ⟨by repeat (first | (with_reducible first | exact HB.out | apply bA_ | apply bN_ | apply bD_ | refine bS_ ?_ GE247.out) | exact HB.out)⟩⟩
                  case rest =>
                    clear HC25
                    try clear c1
                    try clear c2
                    try clear p2
                    try clear q2
                    try clear hx2
                    try clear c6
                    try clear c12
                    try clear c13
                    try clear c17
                    try clear c17b0
                    try clear c19
                    try clear c21
                    try clear c21b0
                    try clear p25
                    try clear q25
                    try clear hx25
                    try clear c26
                    try clear c27
                    try clear hcz28_0
                    try clear hcz28_1
                    try clear hcz28_2
                    try clear hcz28_3
                    try clear hcz28_4
                    try clear hcz28_5
                    try clear hcz9_0
                    try clear hcz9_1
                    try clear hcz9_2
                    try clear hcz9_3
                    try clear hcz9_4
                    try clear hcz9_5
                    try clear hfz28_0
                    try clear hfz28_1
                    try clear hfz28_2
                    try clear hfz28_3
                    try clear hfz28_4
                    try clear hfz28_5
                    try clear hfz9_0
                    try clear hfz9_1
                    try clear hfz9_2
                    try clear hfz9_3
                    try clear hfz9_4
                    try clear hfz9_5
                    try clear hx256_0
                    try clear hx256_1
                    try clear hx256_2
                    try clear hx256_3
                    try clear hx256_4
                    try clear hx256_5
                    try clear p2
                    try clear p256
                    try clear q2
                    try clear q256
                    obtain ⟨kq, x6_24, x7_24, rfl, HA, HJ24, HO_6, BK247, HB⟩ := hcut
                    cases kq with
                    | zero => exact absurd HA.out (by simp [spec_PutFact.j3])
                    | succ kj24 =>
                      have H := HA.out
                      clear HA
                      simp only [spec_PutFact.j3] at H
                      by_cases c30 : 0 ≤ x8_2
                      · rw [if_pos c30] at H
                        have c30b0 : decide (0 ≤ x8_2) = true := decide_eq_true c30
                        clear c30
                        by_cases c31 : x8_2 < (l0.length : Int)
                        · rw [if_pos c31] at H
                          have c31b0 : decide (x8_2 < (l0.length : Int)) = true := decide_eq_true c31
                          clear c31
                          replace H := Option.bind_eq_some_iff.mp H
                          obtain ⟨t263, A320, H⟩ := H
                          replace H : (if t263 = true then (if a1_4 > ((rd_T75 l0 x8_2).f4) then (if x6_24.length < 2932031007402 then (spec_PutFact.l0 kj24 l0 (x6_24 ++ [(⟨a1_0, a1_1, a1_2, a1_3, a1_4, a1_5⟩ : S75)]) true (wrap64 (x8_2 + 1)) a1_0 a1_1 a1_2 a1_3 a1_4 a1_5) else (none)) else (if a1_4 = ((rd_T75 l0 x8_2).f4) then (if a1_5 > ((rd_T75 l0 x8_2).f5) then (if x6_24.length < 2932031007402 then (spec_PutFact.l0 kj24 l0 (x6_24 ++ [(⟨a1_0, a1_1, a1_2, a1_3, a1_4, a1_5⟩ : S75)]) true (wrap64 (x8_2 + 1)) a1_0 a1_1 a1_2 a1_3 a1_4 a1_5) else (none)) else (if x6_24.length < 2932031007402 then (spec_PutFact.l0 kj24 l0 (x6_24 ++ [(⟨(rd_T75 l0 x8_2).f0, (rd_T75 l0 x8_2).f1, (rd_T75 l0 x8_2).f2, (rd_T75 l0 x8_2).f3, (rd_T75 l0 x8_2).f4, (rd_T75 l0 x8_2).f5⟩ : S75)]) true (wrap64 (x8_2 + 1)) a1_0 a1_1 a1_2 a1_3 a1_4 a1_5) else (none))) else (if x6_24.length < 2932031007402 then (spec_PutFact.l0 kj24 l0 (x6_24 ++ [(⟨(rd_T75 l0 x8_2).f0, (rd_T75 l0 x8_2).f1, (rd_T75 l0 x8_2).f2, (rd_T75 l0 x8_2).f3, (rd_T75 l0 x8_2).f4, (rd_T75 l0 x8_2).f5⟩ : S75)]) true (wrap64 (x8_2 + 1)) a1_0 a1_1 a1_2 a1_3 a1_4 a1_5) else (none)))) else (if x6_24.length < 2932031007402 then (spec_PutFact.l0 kj24 l0 (x6_24 ++ [(⟨(rd_T75 l0 x8_2).f0, (rd_T75 l0 x8_2).f1, (rd_T75 l0 x8_2).f2, (rd_T75 l0 x8_2).f3, (rd_T75 l0 x8_2).f4, (rd_T75 l0 x8_2).f5⟩ : S75)]) x7_24 (wrap64 (x8_2 + 1)) a1_0 a1_1 a1_2 a1_3 a1_4 a1_5) else (none))) = some (r1, r2) := H
                          have A32 := Aside0.mk A320
                          clear A320
                          by_cases c33 : t263 = true
                          · subst c33
                            have H1 : (if a1_4 > ((rd_T75 l0 x8_2).f4) then (if x6_24.length < 2932031007402 then (spec_PutFact.l0 kj24 l0 (x6_24 ++ [(⟨a1_0, a1_1, a1_2, a1_3, a1_4, a1_5⟩ : S75)]) true (wrap64 (x8_2 + 1)) a1_0 a1_1 a1_2 a1_3 a1_4 a1_5) else (none)) else (if a1_4 = ((rd_T75 l0 x8_2).f4) then (if a1_5 > ((rd_T75 l0 x8_2).f5) then (if x6_24.length < 2932031007402 then (spec_PutFact.l0 kj24 l0 (x6_24 ++ [(⟨a1_0, a1_1, a1_2, a1_3, a1_4, a1_5⟩ : S75)]) true (wrap64 (x8_2 + 1)) a1_0 a1_1 a1_2 a1_3 a1_4 a1_5) else (none)) else (if x6_24.length < 2932031007402 then (spec_PutFact.l0 kj24 l0 (x6_24 ++ [(⟨(rd_T75 l0 x8_2).f0, (rd_T75 l0 x8_2).f1, (rd_T75 l0 x8_2).f2, (rd_T75 l0 x8_2).f3, (rd_T75 l0 x8_2).f4, (rd_T75 l0 x8_2).f5⟩ : S75)]) true (wrap64 (x8_2 + 1)) a1_0 a1_1 a1_2 a1_3 a1_4 a1_5) else (none))) else (if x6_24.length < 2932031007402 then (spec_PutFact.l0 kj24 l0 (x6_24 ++ [(⟨(rd_T75 l0 x8_2).f0, (rd_T75 l0 x8_2).f1, (rd_T75 l0 x8_2).f2, (rd_T75 l0 x8_2).f3, (rd_T75 l0 x8_2).f4, (rd_T75 l0 x8_2).f5⟩ : S75)]) true (wrap64 (x8_2 + 1)) a1_0 a1_1 a1_2 a1_3 a1_4 a1_5) else (none)))) = some (r1, r2) := by rw [if_pos rfl] at H; exact H
                            clear H
                            have H := H1
                            clear H1
                            by_cases c34 : a1_4 > ((rd_T75 l0 x8_2).f4)
                            · rw [if_pos c34] at H
                              have c34b0 : decide (((rd_T75 l0 x8_2).f4) < a1_4) = true := decide_eq_true c34
                              clear c34
                              by_cases c35 : x6_24.length < 2932031007402
                              · rw [if_pos c35] at H
                                have LMc35 := Aside0.mk c35
                                clear c35
                                obtain ⟨y264, hy264⟩ : ∃ y_ : List (S75), y_ = (x6_24 ++ [(⟨a1_0, a1_1, a1_2, a1_3, a1_4, a1_5⟩ : S75)]) := ⟨_, rfl⟩
                                replace H : (spec_PutFact.l0 kj24 l0 y264 true (wrap64 (x8_2 + 1)) a1_0 a1_1 a1_2 a1_3 a1_4 a1_5) = some (r1, r2) := by first | (rw [hy264]; with_reducible exact H) | (have H2_ := (Option.bind_some _ _).symm.trans H; rw [hy264]; with_reducible exact H2_) | (have H2_ := (Option.bind_some _ _).symm.trans H; with_reducible exact H2_) | with_reducible exact H | (rw [hy264]; exact H) | exact H
                                have Ny264 := Aside0.mk hy264
                                clear hy264
                                have H' := Aside0.mk H
                                clear H
                                have p261 : 0 ≤ (x8_2 : Int) := of_decide_eq_true z126_11
                                have q261 : x8_2 < (l0.length : Int) := of_decide_eq_true z126_11
                                obtain ⟨ad261, e261, hx261_0, hx261_1, hx261_2, hx261_3, hx261_4, hx261_5⟩ := at_T75 HR0.out x8_2 p261 q261
                                cases e261
                                replace hx261_0 := (HB.out.cell (World.block_lt_of_cell? w _ hx261_0)).trans hx261_0
                                replace hx261_1 := (HB.out.cell (World.block_lt_of_cell? w _ hx261_1)).trans hx261_1
                                replace hx261_2 := (HB.out.cell (World.block_lt_of_cell? w _ hx261_2)).trans hx261_2
                                replace hx261_3 := (HB.out.cell (World.block_lt_of_cell? w _ hx261_3)).trans hx261_3
                                replace hx261_4 := (HB.out.cell (World.block_lt_of_cell? w _ hx261_4)).trans hx261_4
                                replace hx261_5 := (HB.out.cell (World.block_lt_of_cell? w _ hx261_5)).trans hx261_5
                                replace p261 := eq_true p261
                                replace q261 := eq_true q261
                                go_wp2_with (first | ((with_reducible refine gate_dst (N := 9) rfl ?_); refine box_event ?hg (N := 9) ?hd (cs := #[.int .i64 0, .int .i64 0, .int .i64 0, .int .i64 0, .int .i64 0, .int .i64 0]) (t := 75) ?hr ?_; (case hd => rfl); (case hg => rfl); (case hr => first | (go_simp; done) | (go_simp; rfl)); intro gb262 hg w36 hbox hb; have n0_ := Aside0.mk (Kd.R_below (Kd.R_elderB (pR126_ HO_6.out) gb262 (Nat.le_of_eq hg.symm)) hb); have n1_ := Aside0.mk (blk_below (g := gb247) (o := .cells #[.int .i64 a1_0, .int .i64 a1_1, .int .i64 a1_2, .int .i64 a1_3, .int .i64 a1_4, .int .i64 a1_5] 75 (0, 0)) (pB126_ BK247.out) hb); have n2_ := Aside0.mk (below_step z126_3 hb); have n3_ := Aside0.mk (hbox); have n4_ := Aside0.mk ((z126_12 : w.heap.size ≤ gb262)); have n5_ := Aside0.mk ((z126_12 : w.heap.size ≤ gb262)); have n6_ := Aside0.mk ((z126_7 : gb247 ≠ gb262)); have n7_ := Aside0.mk ((z126_8 : gb262 ≠ gb247)); clear HO_6; clear BK247; clear HB; have HO_6 := n0_; have BK247 := n1_; have HB := n2_; have BK262 := n3_; have GW262 := n4_; have GE262 := n5_; have NB247_262 := n6_; have NB262_247 := n7_; clear n0_ n1_ n2_ n3_ n4_ n5_ n6_ n7_; clear hb hbox hg; have hnb37 := NB262_247.out; have hnc37 := NB247_262.out; have hcz38_0 : w36.cell? ⟨gb262, 0, none⟩ = some (.int .i64 0) := (bC_ BK262.out 0).trans rfl; have hcz38_1 : w36.cell? ⟨gb262, 1, none⟩ = some (.int .i64 0) := (bC_ BK262.out 1).trans rfl; have hcz38_2 : w36.cell? ⟨gb262, 2, none⟩ = some (.int .i64 0) := (bC_ BK262.out 2).trans rfl; have hcz38_3 : w36.cell? ⟨gb262, 3, none⟩ = some (.int .i64 0) := (bC_ BK262.out 3).trans rfl; have hcz38_4 : w36.cell? ⟨gb262, 4, none⟩ = some (.int .i64 0) := (bC_ BK262.out 4).trans rfl; have hcz38_5 : w36.cell? ⟨gb262, 5, none⟩ = some (.int .i64 0) := (bC_ BK262.out 5).trans rfl; have hfz38_0 := bF_ BK262.out 0; have hfz38_1 := bF_ BK262.out 1; have hfz38_2 := bF_ BK262.out 2; have hfz38_3 := bF_ BK262.out 3; have hfz38_4 := bF_ BK262.out 4; have hfz38_5 := bF_ BK262.out 5; have hcz39_0 : w36.cell? ⟨gb247, 0, none⟩ = some (.int .i64 a1_0) := (bC_ BK247.out 0).trans rfl; have hcz39_1 : w36.cell? ⟨gb247, 1, none⟩ = some (.int .i64 a1_1) := (bC_ BK247.out 1).trans rfl; have hcz39_2 : w36.cell? ⟨gb247, 2, none⟩ = some (.int .i64 a1_2) := (bC_ BK247.out 2).trans rfl; have hcz39_3 : w36.cell? ⟨gb247, 3, none⟩ = some (.int .i64 a1_3) := (bC_ BK247.out 3).trans rfl; have hcz39_4 : w36.cell? ⟨gb247, 4, none⟩ = some (.int .i64 a1_4) := (bC_ BK247.out 4).trans rfl; have hcz39_5 : w36.cell? ⟨gb247, 5, none⟩ = some (.int .i64 a1_5) := (bC_ BK247.out 5).trans rfl; have hfz39_0 := bF_ BK247.out 0; have hfz39_1 := bF_ BK247.out 1; have hfz39_2 := bF_ BK247.out 2; have hfz39_3 := bF_ BK247.out 3; have hfz39_4 := bF_ BK247.out 4; have hfz39_5 := bF_ BK247.out 5) | ((with_reducible refine gate_callee (f := 140) rfl ?_); refine goesL_ (some 47) rfl rfl Try.func140 z126_14 rfl #[.agg #[.int .i64 a1_0, .int .i64 a1_1, .int .i64 a1_2, .int .i64 a1_3, .int .i64 a1_4, .int .i64 a1_5], .agg #[.int .i64 ((rd_T75 l0 x8_2).f0), .int .i64 ((rd_T75 l0 x8_2).f1), .int .i64 ((rd_T75 l0 x8_2).f2), .int .i64 ((rd_T75 l0 x8_2).f3), .int .i64 ((rd_T75 l0 x8_2).f4), .int .i64 ((rd_T75 l0 x8_2).f5)]] rfl z126_6 ?_; (with_reducible refine (spec_SameClaim.calls a1_0 a1_1 a1_2 a1_3 a1_4 a1_5 ((rd_T75 l0 x8_2).f0) ((rd_T75 l0 x8_2).f1) ((rd_T75 l0 x8_2).f2) ((rd_T75 l0 x8_2).f3) ((rd_T75 l0 x8_2).f4) ((rd_T75 l0 x8_2).f5) true _ A32.out).mono ?_); rintro e w40 ⟨rfl, hb⟩; refine ⟨_, rfl, ?_⟩; have n0_ := Aside0.mk (Kd.R_below z126_4 hb); have n1_ := Aside0.mk (blk_below (g := gb247) (o := .cells #[.int .i64 a1_0, .int .i64 a1_1, .int .i64 a1_2, .int .i64 a1_3, .int .i64 a1_4, .int .i64 a1_5] 75 (0, 0)) z126_0 hb); have n2_ := Aside0.mk (blk_below (g := gb262) (o := .cells #[.int .i64 ((rd_T75 l0 x8_2).f0), .int .i64 ((rd_T75 l0 x8_2).f1), .int .i64 ((rd_T75 l0 x8_2).f2), .int .i64 ((rd_T75 l0 x8_2).f3), .int .i64 ((rd_T75 l0 x8_2).f4), .int .i64 ((rd_T75 l0 x8_2).f5)] 75 (0, 0)) z126_1 hb); have n3_ := Aside0.mk (below_step z126_5 hb); clear HO_6; clear BK247; clear BK262; clear HB; have HO_6 := n0_; have BK247 := n1_; have BK262 := n2_; have HB := n3_; clear n0_ n1_ n2_ n3_; (try clear hb); (try clear hb2); (try clear hk); (try clear hi); have hcz41_0 : w40.cell? ⟨gb247, 0, none⟩ = some (.int .i64 a1_0) := (bC_ BK247.out 0).trans rfl; have hcz41_1 : w40.cell? ⟨gb247, 1, none⟩ = some (.int .i64 a1_1) := (bC_ BK247.out 1).trans rfl; have hcz41_2 : w40.cell? ⟨gb247, 2, none⟩ = some (.int .i64 a1_2) := (bC_ BK247.out 2).trans rfl; have hcz41_3 : w40.cell? ⟨gb247, 3, none⟩ = some (.int .i64 a1_3) := (bC_ BK247.out 3).trans rfl; have hcz41_4 : w40.cell? ⟨gb247, 4, none⟩ = some (.int .i64 a1_4) := (bC_ BK247.out 4).trans rfl; have hcz41_5 : w40.cell? ⟨gb247, 5, none⟩ = some (.int .i64 a1_5) := (bC_ BK247.out 5).trans rfl; have hfz41_0 := bF_ BK247.out 0; have hfz41_1 := bF_ BK247.out 1; have hfz41_2 := bF_ BK247.out 2; have hfz41_3 := bF_ BK247.out 3; have hfz41_4 := bF_ BK247.out 4; have hfz41_5 := bF_ BK247.out 5; have hcz42_0 : w40.cell? ⟨gb262, 0, none⟩ = some (.int .i64 ((rd_T75 l0 x8_2).f0)) := (bC_ BK262.out 0).trans rfl; have hcz42_1 : w40.cell? ⟨gb262, 1, none⟩ = some (.int .i64 ((rd_T75 l0 x8_2).f1)) := (bC_ BK262.out 1).trans rfl; have hcz42_2 : w40.cell? ⟨gb262, 2, none⟩ = some (.int .i64 ((rd_T75 l0 x8_2).f2)) := (bC_ BK262.out 2).trans rfl; have hcz42_3 : w40.cell? ⟨gb262, 3, none⟩ = some (.int .i64 ((rd_T75 l0 x8_2).f3)) := (bC_ BK262.out 3).trans rfl; have hcz42_4 : w40.cell? ⟨gb262, 4, none⟩ = some (.int .i64 ((rd_T75 l0 x8_2).f4)) := (bC_ BK262.out 4).trans rfl; have hcz42_5 : w40.cell? ⟨gb262, 5, none⟩ = some (.int .i64 ((rd_T75 l0 x8_2).f5)) := (bC_ BK262.out 5).trans rfl; have hfz42_0 := bF_ BK262.out 0; have hfz42_1 := bF_ BK262.out 1; have hfz42_2 := bF_ BK262.out 2; have hfz42_3 := bF_ BK262.out 3; have hfz42_4 := bF_ BK262.out 4; have hfz42_5 := bF_ BK262.out 5) | ((with_reducible refine gate_builtin (b := .append) (xs := #[.tmp 68, .tmp 70]) rfl ?_); at_builtin; refine Kd.R_append k75 (w0 := w) w.heap.size rfl (.tmp 68) (.tmp 70) 30 75 (.agg #[(.int .i64 0), (.int .i64 0), (.int .i64 0), (.int .i64 0), (.int .i64 0), (.int .i64 0)]) 48 rfl Try.underlying30 info75 rfl (by decide) (by omega) u6 x6_24 (⟨a1_0, a1_1, a1_2, a1_3, a1_4, a1_5⟩ : S75) [.int .i64 a1_0, .int .i64 a1_1, .int .i64 a1_2, .int .i64 a1_3, .int .i64 a1_4, .int .i64 a1_5] (fun k_ => k_ ≠ gb247 ∧ k_ ≠ gb262) (fun _ => False) rfl (by first | (go_simp; done) | (go_simp; rfl)) ?aP (fun _ hk => hk.elim) ?aF ?aO ?aB ?aS ?aL ?_; (case aP => exact k75_mkM _ _ _ (⟨a1_0, a1_1, a1_2, a1_3, a1_4, a1_5⟩ : S75)); (case aB => exact z126_5); (case aF => exact (fun k_ hk => ⟨Kd.freshB (g := gb247) (o := .cells #[.int .i64 a1_0, .int .i64 a1_1, .int .i64 a1_2, .int .i64 a1_3, .int .i64 a1_4, .int .i64 a1_5] 75 (0, 0)) z126_0 k_ hk, Kd.freshB (g := gb262) (o := .cells #[.int .i64 a1_0, .int .i64 a1_1, .int .i64 a1_2, .int .i64 a1_3, .int .i64 a1_4, .int .i64 a1_5] 75 (0, 0)) z126_2 k_ hk⟩)); (case aO => exact z126_10); (case aS => exact (below_size z126_5)); (case aL => have := LMc35.out; omega); intro v265 w43 ho hb hg hat; rw [← Ny264.out] at ho; have n0_ := Aside0.mk (blk_grown (g := gb247) (o := .cells #[.int .i64 a1_0, .int .i64 a1_1, .int .i64 a1_2, .int .i64 a1_3, .int .i64 a1_4, .int .i64 a1_5] 75 (0, 0)) z126_0 hg (Kd.R_away HO_6.out (fun _ hk => hk.1))); have n1_ := Aside0.mk (blk_grown (g := gb262) (o := .cells #[.int .i64 a1_0, .int .i64 a1_1, .int .i64 a1_2, .int .i64 a1_3, .int .i64 a1_4, .int .i64 a1_5] 75 (0, 0)) z126_2 hg (Kd.R_away HO_6.out (fun _ hk => hk.2))); have n2_ := Aside0.mk (hb); have n3_ := Aside0.mk (ho); clear BK247; clear BK262; clear HB; clear HO_6; have BK247 := n0_; have BK262 := n1_; have HB := n2_; have HO266 := n3_; clear n0_ n1_ n2_ n3_; clear ho hb hg hat))
                                go_roundg kj24
                                case measure => have := HJ2.out; have := HK2.out; have := HJ17.out; have := HJ24.out; omega
                                case rel => exact ⟨(y264), (true), (wrap64 (x8_2 + 1)), z126_9, z126_9, H', ⟨by have := HJ2.out; have := HK2.out; have := HJ17.out; have := HJ24.out; omega⟩, ⟨by (with_reducible repeat (first | apply Kd.R_alloc | apply Kd.R_drewN | apply Kd.R_drew)); exact Kd.R_mono HO266.out (fun _ hk => hk.1)⟩, ⟨by (with_reducible repeat (first | refine blk_drewN ?_ _ | refine blk_drew ?_ | refine blk_alloc ?_ _)); exact BK247.out⟩, ⟨by repeat (first | (with_reducible first | exact HB.out | apply bA_ | apply bN_ | apply bD_ | refine bS_ ?_ GE247.out | refine bS_ ?_ GE262.out) | exact HB.out)⟩⟩
                              · rw [if_neg c35] at H
                                exact absurd H (by simp)
                            · rw [if_neg c34] at H
                              have c34b0 : decide (((rd_T75 l0 x8_2).f4) < a1_4) = false := decide_eq_false c34
                              clear c34
                              by_cases c44 : a1_4 = ((rd_T75 l0 x8_2).f4)
                              · rw [if_pos c44] at H
                                have c44b0 : (a1_4 == ((rd_T75 l0 x8_2).f4)) = true := beq_iff_eq.mpr c44
                                have c44b1 : (a1_4 != ((rd_T75 l0 x8_2).f4)) = false := bne_eq_false_iff_eq.mpr c44
                                clear c44
                                by_cases c45 : a1_5 > ((rd_T75 l0 x8_2).f5)
                                · rw [if_pos c45] at H
                                  have c45b0 : decide (((rd_T75 l0 x8_2).f5) < a1_5) = true := decide_eq_true c45
                                  clear c45
                                  by_cases c46 : x6_24.length < 2932031007402
                                  · rw [if_pos c46] at H
                                    have LMc46 := Aside0.mk c46
                                    clear c46
                                    obtain ⟨y267, hy267⟩ : ∃ y_ : List (S75), y_ = (x6_24 ++ [(⟨a1_0, a1_1, a1_2, a1_3, a1_4, a1_5⟩ : S75)]) := ⟨_, rfl⟩
                                    replace H : (spec_PutFact.l0 kj24 l0 y267 true (wrap64 (x8_2 + 1)) a1_0 a1_1 a1_2 a1_3 a1_4 a1_5) = some (r1, r2) := by first | (rw [hy267]; with_reducible exact H) | (have H2_ := (Option.bind_some _ _).symm.trans H; rw [hy267]; with_reducible exact H2_) | (have H2_ := (Option.bind_some _ _).symm.trans H; with_reducible exact H2_) | with_reducible exact H | (rw [hy267]; exact H) | exact H
                                    have Ny267 := Aside0.mk hy267
                                    clear hy267
                                    have H' := Aside0.mk H
                                    clear H
                                    have p261 : 0 ≤ (x8_2 : Int) := of_decide_eq_true z126_11
                                    have q261 : x8_2 < (l0.length : Int) := of_decide_eq_true z126_11
                                    obtain ⟨ad261, e261, hx261_0, hx261_1, hx261_2, hx261_3, hx261_4, hx261_5⟩ := at_T75 HR0.out x8_2 p261 q261
                                    cases e261
                                    replace hx261_0 := (HB.out.cell (World.block_lt_of_cell? w _ hx261_0)).trans hx261_0
                                    replace hx261_1 := (HB.out.cell (World.block_lt_of_cell? w _ hx261_1)).trans hx261_1
                                    replace hx261_2 := (HB.out.cell (World.block_lt_of_cell? w _ hx261_2)).trans hx261_2
                                    replace hx261_3 := (HB.out.cell (World.block_lt_of_cell? w _ hx261_3)).trans hx261_3
                                    replace hx261_4 := (HB.out.cell (World.block_lt_of_cell? w _ hx261_4)).trans hx261_4
                                    replace hx261_5 := (HB.out.cell (World.block_lt_of_cell? w _ hx261_5)).trans hx261_5
                                    replace p261 := eq_true p261
                                    replace q261 := eq_true q261
                                    go_wp2_with (first | ((with_reducible refine gate_dst (N := 9) rfl ?_); refine box_event ?hg (N := 9) ?hd (cs := #[.int .i64 0, .int .i64 0, .int .i64 0, .int .i64 0, .int .i64 0, .int .i64 0]) (t := 75) ?hr ?_; (case hd => rfl); (case hg => rfl); (case hr => first | (go_simp; done) | (go_simp; rfl)); intro gb262 hg w47 hbox hb; have n0_ := Aside0.mk (Kd.R_below (Kd.R_elderB (pR126_ HO_6.out) gb262 (Nat.le_of_eq hg.symm)) hb); have n1_ := Aside0.mk (blk_below (g := gb247) (o := .cells #[.int .i64 a1_0, .int .i64 a1_1, .int .i64 a1_2, .int .i64 a1_3, .int .i64 a1_4, .int .i64 a1_5] 75 (0, 0)) (pB126_ BK247.out) hb); have n2_ := Aside0.mk (below_step z126_3 hb); have n3_ := Aside0.mk (hbox); have n4_ := Aside0.mk ((z126_12 : w.heap.size ≤ gb262)); have n5_ := Aside0.mk ((z126_12 : w.heap.size ≤ gb262)); have n6_ := Aside0.mk ((z126_7 : gb247 ≠ gb262)); have n7_ := Aside0.mk ((z126_8 : gb262 ≠ gb247)); clear HO_6; clear BK247; clear HB; have HO_6 := n0_; have BK247 := n1_; have HB := n2_; have BK262 := n3_; have GW262 := n4_; have GE262 := n5_; have NB247_262 := n6_; have NB262_247 := n7_; clear n0_ n1_ n2_ n3_ n4_ n5_ n6_ n7_; clear hb hbox hg; have hnb48 := NB262_247.out; have hnc48 := NB247_262.out; have hcz49_0 : w47.cell? ⟨gb262, 0, none⟩ = some (.int .i64 0) := (bC_ BK262.out 0).trans rfl; have hcz49_1 : w47.cell? ⟨gb262, 1, none⟩ = some (.int .i64 0) := (bC_ BK262.out 1).trans rfl; have hcz49_2 : w47.cell? ⟨gb262, 2, none⟩ = some (.int .i64 0) := (bC_ BK262.out 2).trans rfl; have hcz49_3 : w47.cell? ⟨gb262, 3, none⟩ = some (.int .i64 0) := (bC_ BK262.out 3).trans rfl; have hcz49_4 : w47.cell? ⟨gb262, 4, none⟩ = some (.int .i64 0) := (bC_ BK262.out 4).trans rfl; have hcz49_5 : w47.cell? ⟨gb262, 5, none⟩ = some (.int .i64 0) := (bC_ BK262.out 5).trans rfl; have hfz49_0 := bF_ BK262.out 0; have hfz49_1 := bF_ BK262.out 1; have hfz49_2 := bF_ BK262.out 2; have hfz49_3 := bF_ BK262.out 3; have hfz49_4 := bF_ BK262.out 4; have hfz49_5 := bF_ BK262.out 5; have hcz50_0 : w47.cell? ⟨gb247, 0, none⟩ = some (.int .i64 a1_0) := (bC_ BK247.out 0).trans rfl; have hcz50_1 : w47.cell? ⟨gb247, 1, none⟩ = some (.int .i64 a1_1) := (bC_ BK247.out 1).trans rfl; have hcz50_2 : w47.cell? ⟨gb247, 2, none⟩ = some (.int .i64 a1_2) := (bC_ BK247.out 2).trans rfl; have hcz50_3 : w47.cell? ⟨gb247, 3, none⟩ = some (.int .i64 a1_3) := (bC_ BK247.out 3).trans rfl; have hcz50_4 : w47.cell? ⟨gb247, 4, none⟩ = some (.int .i64 a1_4) := (bC_ BK247.out 4).trans rfl; have hcz50_5 : w47.cell? ⟨gb247, 5, none⟩ = some (.int .i64 a1_5) := (bC_ BK247.out 5).trans rfl; have hfz50_0 := bF_ BK247.out 0; have hfz50_1 := bF_ BK247.out 1; have hfz50_2 := bF_ BK247.out 2; have hfz50_3 := bF_ BK247.out 3; have hfz50_4 := bF_ BK247.out 4; have hfz50_5 := bF_ BK247.out 5) | ((with_reducible refine gate_callee (f := 140) rfl ?_); refine goesL_ (some 47) rfl rfl Try.func140 z126_14 rfl #[.agg #[.int .i64 a1_0, .int .i64 a1_1, .int .i64 a1_2, .int .i64 a1_3, .int .i64 a1_4, .int .i64 a1_5], .agg #[.int .i64 ((rd_T75 l0 x8_2).f0), .int .i64 ((rd_T75 l0 x8_2).f1), .int .i64 ((rd_T75 l0 x8_2).f2), .int .i64 ((rd_T75 l0 x8_2).f3), .int .i64 ((rd_T75 l0 x8_2).f4), .int .i64 ((rd_T75 l0 x8_2).f5)]] rfl z126_6 ?_; (with_reducible refine (spec_SameClaim.calls a1_0 a1_1 a1_2 a1_3 a1_4 a1_5 ((rd_T75 l0 x8_2).f0) ((rd_T75 l0 x8_2).f1) ((rd_T75 l0 x8_2).f2) ((rd_T75 l0 x8_2).f3) ((rd_T75 l0 x8_2).f4) ((rd_T75 l0 x8_2).f5) true _ A32.out).mono ?_); rintro e w51 ⟨rfl, hb⟩; refine ⟨_, rfl, ?_⟩; have n0_ := Aside0.mk (Kd.R_below z126_4 hb); have n1_ := Aside0.mk (blk_below (g := gb247) (o := .cells #[.int .i64 a1_0, .int .i64 a1_1, .int .i64 a1_2, .int .i64 a1_3, .int .i64 a1_4, .int .i64 a1_5] 75 (0, 0)) z126_0 hb); have n2_ := Aside0.mk (blk_below (g := gb262) (o := .cells #[.int .i64 ((rd_T75 l0 x8_2).f0), .int .i64 ((rd_T75 l0 x8_2).f1), .int .i64 ((rd_T75 l0 x8_2).f2), .int .i64 ((rd_T75 l0 x8_2).f3), .int .i64 ((rd_T75 l0 x8_2).f4), .int .i64 ((rd_T75 l0 x8_2).f5)] 75 (0, 0)) z126_1 hb); have n3_ := Aside0.mk (below_step z126_5 hb); clear HO_6; clear BK247; clear BK262; clear HB; have HO_6 := n0_; have BK247 := n1_; have BK262 := n2_; have HB := n3_; clear n0_ n1_ n2_ n3_; (try clear hb); (try clear hb2); (try clear hk); (try clear hi); have hcz52_0 : w51.cell? ⟨gb247, 0, none⟩ = some (.int .i64 a1_0) := (bC_ BK247.out 0).trans rfl; have hcz52_1 : w51.cell? ⟨gb247, 1, none⟩ = some (.int .i64 a1_1) := (bC_ BK247.out 1).trans rfl; have hcz52_2 : w51.cell? ⟨gb247, 2, none⟩ = some (.int .i64 a1_2) := (bC_ BK247.out 2).trans rfl; have hcz52_3 : w51.cell? ⟨gb247, 3, none⟩ = some (.int .i64 a1_3) := (bC_ BK247.out 3).trans rfl; have hcz52_4 : w51.cell? ⟨gb247, 4, none⟩ = some (.int .i64 a1_4) := (bC_ BK247.out 4).trans rfl; have hcz52_5 : w51.cell? ⟨gb247, 5, none⟩ = some (.int .i64 a1_5) := (bC_ BK247.out 5).trans rfl; have hfz52_0 := bF_ BK247.out 0; have hfz52_1 := bF_ BK247.out 1; have hfz52_2 := bF_ BK247.out 2; have hfz52_3 := bF_ BK247.out 3; have hfz52_4 := bF_ BK247.out 4; have hfz52_5 := bF_ BK247.out 5; have hcz53_0 : w51.cell? ⟨gb262, 0, none⟩ = some (.int .i64 ((rd_T75 l0 x8_2).f0)) := (bC_ BK262.out 0).trans rfl; have hcz53_1 : w51.cell? ⟨gb262, 1, none⟩ = some (.int .i64 ((rd_T75 l0 x8_2).f1)) := (bC_ BK262.out 1).trans rfl; have hcz53_2 : w51.cell? ⟨gb262, 2, none⟩ = some (.int .i64 ((rd_T75 l0 x8_2).f2)) := (bC_ BK262.out 2).trans rfl; have hcz53_3 : w51.cell? ⟨gb262, 3, none⟩ = some (.int .i64 ((rd_T75 l0 x8_2).f3)) := (bC_ BK262.out 3).trans rfl; have hcz53_4 : w51.cell? ⟨gb262, 4, none⟩ = some (.int .i64 ((rd_T75 l0 x8_2).f4)) := (bC_ BK262.out 4).trans rfl; have hcz53_5 : w51.cell? ⟨gb262, 5, none⟩ = some (.int .i64 ((rd_T75 l0 x8_2).f5)) := (bC_ BK262.out 5).trans rfl; have hfz53_0 := bF_ BK262.out 0; have hfz53_1 := bF_ BK262.out 1; have hfz53_2 := bF_ BK262.out 2; have hfz53_3 := bF_ BK262.out 3; have hfz53_4 := bF_ BK262.out 4; have hfz53_5 := bF_ BK262.out 5) | ((with_reducible refine gate_builtin (b := .append) (xs := #[.tmp 68, .tmp 70]) rfl ?_); at_builtin; refine Kd.R_append k75 (w0 := w) w.heap.size rfl (.tmp 68) (.tmp 70) 30 75 (.agg #[(.int .i64 0), (.int .i64 0), (.int .i64 0), (.int .i64 0), (.int .i64 0), (.int .i64 0)]) 48 rfl Try.underlying30 info75 rfl (by decide) (by omega) u6 x6_24 (⟨a1_0, a1_1, a1_2, a1_3, a1_4, a1_5⟩ : S75) [.int .i64 a1_0, .int .i64 a1_1, .int .i64 a1_2, .int .i64 a1_3, .int .i64 a1_4, .int .i64 a1_5] (fun k_ => k_ ≠ gb247 ∧ k_ ≠ gb262) (fun _ => False) rfl (by first | (go_simp; done) | (go_simp; rfl)) ?aP (fun _ hk => hk.elim) ?aF ?aO ?aB ?aS ?aL ?_; (case aP => exact k75_mkM _ _ _ (⟨a1_0, a1_1, a1_2, a1_3, a1_4, a1_5⟩ : S75)); (case aB => exact z126_5); (case aF => exact (fun k_ hk => ⟨Kd.freshB (g := gb247) (o := .cells #[.int .i64 a1_0, .int .i64 a1_1, .int .i64 a1_2, .int .i64 a1_3, .int .i64 a1_4, .int .i64 a1_5] 75 (0, 0)) z126_0 k_ hk, Kd.freshB (g := gb262) (o := .cells #[.int .i64 a1_0, .int .i64 a1_1, .int .i64 a1_2, .int .i64 a1_3, .int .i64 a1_4, .int .i64 a1_5] 75 (0, 0)) z126_2 k_ hk⟩)); (case aO => exact z126_10); (case aS => exact (below_size z126_5)); (case aL => have := LMc46.out; omega); intro v268 w54 ho hb hg hat; rw [← Ny267.out] at ho; have n0_ := Aside0.mk (blk_grown (g := gb247) (o := .cells #[.int .i64 a1_0, .int .i64 a1_1, .int .i64 a1_2, .int .i64 a1_3, .int .i64 a1_4, .int .i64 a1_5] 75 (0, 0)) z126_0 hg (Kd.R_away HO_6.out (fun _ hk => hk.1))); have n1_ := Aside0.mk (blk_grown (g := gb262) (o := .cells #[.int .i64 a1_0, .int .i64 a1_1, .int .i64 a1_2, .int .i64 a1_3, .int .i64 a1_4, .int .i64 a1_5] 75 (0, 0)) z126_2 hg (Kd.R_away HO_6.out (fun _ hk => hk.2))); have n2_ := Aside0.mk (hb); have n3_ := Aside0.mk (ho); clear BK247; clear BK262; clear HB; clear HO_6; have BK247 := n0_; have BK262 := n1_; have HB := n2_; have HO269 := n3_; clear n0_ n1_ n2_ n3_; clear ho hb hg hat))
                                    go_roundg kj24
                                    case measure => have := HJ2.out; have := HK2.out; have := HJ17.out; have := HJ24.out; omega
                                    case rel => exact ⟨(y267), (true), (wrap64 (x8_2 + 1)), z126_9, z126_9, H', ⟨by have := HJ2.out; have := HK2.out; have := HJ17.out; have := HJ24.out; omega⟩, ⟨by (with_reducible repeat (first | apply Kd.R_alloc | apply Kd.R_drewN | apply Kd.R_drew)); exact Kd.R_mono HO269.out (fun _ hk => hk.1)⟩, ⟨by (with_reducible repeat (first | refine blk_drewN ?_ _ | refine blk_drew ?_ | refine blk_alloc ?_ _)); exact BK247.out⟩, ⟨by repeat (first | (with_reducible first | exact HB.out | apply bA_ | apply bN_ | apply bD_ | refine bS_ ?_ GE247.out | refine bS_ ?_ GE262.out) | exact HB.out)⟩⟩
                                  · rw [if_neg c46] at H
                                    exact absurd H (by simp)
                                · rw [if_neg c45] at H
                                  have c45b0 : decide (((rd_T75 l0 x8_2).f5) < a1_5) = false := decide_eq_false c45
                                  clear c45
                                  by_cases c55 : x6_24.length < 2932031007402
                                  · rw [if_pos c55] at H
                                    have LMc55 := Aside0.mk c55
                                    clear c55
                                    obtain ⟨y270, hy270⟩ : ∃ y_ : List (S75), y_ = (x6_24 ++ [(⟨(rd_T75 l0 x8_2).f0, (rd_T75 l0 x8_2).f1, (rd_T75 l0 x8_2).f2, (rd_T75 l0 x8_2).f3, (rd_T75 l0 x8_2).f4, (rd_T75 l0 x8_2).f5⟩ : S75)]) := ⟨_, rfl⟩
                                    replace H : (spec_PutFact.l0 kj24 l0 y270 true (wrap64 (x8_2 + 1)) a1_0 a1_1 a1_2 a1_3 a1_4 a1_5) = some (r1, r2) := by first | (rw [hy270]; with_reducible exact H) | (have H2_ := (Option.bind_some _ _).symm.trans H; rw [hy270]; with_reducible exact H2_) | (have H2_ := (Option.bind_some _ _).symm.trans H; with_reducible exact H2_) | with_reducible exact H | (rw [hy270]; exact H) | exact H
                                    have Ny270 := Aside0.mk hy270
                                    clear hy270
                                    have H' := Aside0.mk H
                                    clear H
                                    have p261 : 0 ≤ (x8_2 : Int) := of_decide_eq_true z126_11
                                    have q261 : x8_2 < (l0.length : Int) := of_decide_eq_true z126_11
                                    obtain ⟨ad261, e261, hx261_0, hx261_1, hx261_2, hx261_3, hx261_4, hx261_5⟩ := at_T75 HR0.out x8_2 p261 q261
                                    cases e261
                                    replace hx261_0 := (HB.out.cell (World.block_lt_of_cell? w _ hx261_0)).trans hx261_0
                                    replace hx261_1 := (HB.out.cell (World.block_lt_of_cell? w _ hx261_1)).trans hx261_1
                                    replace hx261_2 := (HB.out.cell (World.block_lt_of_cell? w _ hx261_2)).trans hx261_2
                                    replace hx261_3 := (HB.out.cell (World.block_lt_of_cell? w _ hx261_3)).trans hx261_3
                                    replace hx261_4 := (HB.out.cell (World.block_lt_of_cell? w _ hx261_4)).trans hx261_4
                                    replace hx261_5 := (HB.out.cell (World.block_lt_of_cell? w _ hx261_5)).trans hx261_5
                                    replace p261 := eq_true p261
                                    replace q261 := eq_true q261
                                    go_wp2_with (first | ((with_reducible refine gate_dst (N := 9) rfl ?_); refine box_event ?hg (N := 9) ?hd (cs := #[.int .i64 0, .int .i64 0, .int .i64 0, .int .i64 0, .int .i64 0, .int .i64 0]) (t := 75) ?hr ?_; (case hd => rfl); (case hg => rfl); (case hr => first | (go_simp; done) | (go_simp; rfl)); intro gb262 hg w56 hbox hb; have n0_ := Aside0.mk (Kd.R_below (Kd.R_elderB (pR126_ HO_6.out) gb262 (Nat.le_of_eq hg.symm)) hb); have n1_ := Aside0.mk (blk_below (g := gb247) (o := .cells #[.int .i64 a1_0, .int .i64 a1_1, .int .i64 a1_2, .int .i64 a1_3, .int .i64 a1_4, .int .i64 a1_5] 75 (0, 0)) (pB126_ BK247.out) hb); have n2_ := Aside0.mk (below_step z126_3 hb); have n3_ := Aside0.mk (hbox); have n4_ := Aside0.mk ((z126_12 : w.heap.size ≤ gb262)); have n5_ := Aside0.mk ((z126_12 : w.heap.size ≤ gb262)); have n6_ := Aside0.mk ((z126_7 : gb247 ≠ gb262)); have n7_ := Aside0.mk ((z126_8 : gb262 ≠ gb247)); clear HO_6; clear BK247; clear HB; have HO_6 := n0_; have BK247 := n1_; have HB := n2_; have BK262 := n3_; have GW262 := n4_; have GE262 := n5_; have NB247_262 := n6_; have NB262_247 := n7_; clear n0_ n1_ n2_ n3_ n4_ n5_ n6_ n7_; clear hb hbox hg; have hnb57 := NB262_247.out; have hnc57 := NB247_262.out; have hcz58_0 : w56.cell? ⟨gb262, 0, none⟩ = some (.int .i64 0) := (bC_ BK262.out 0).trans rfl; have hcz58_1 : w56.cell? ⟨gb262, 1, none⟩ = some (.int .i64 0) := (bC_ BK262.out 1).trans rfl; have hcz58_2 : w56.cell? ⟨gb262, 2, none⟩ = some (.int .i64 0) := (bC_ BK262.out 2).trans rfl; have hcz58_3 : w56.cell? ⟨gb262, 3, none⟩ = some (.int .i64 0) := (bC_ BK262.out 3).trans rfl; have hcz58_4 : w56.cell? ⟨gb262, 4, none⟩ = some (.int .i64 0) := (bC_ BK262.out 4).trans rfl; have hcz58_5 : w56.cell? ⟨gb262, 5, none⟩ = some (.int .i64 0) := (bC_ BK262.out 5).trans rfl; have hfz58_0 := bF_ BK262.out 0; have hfz58_1 := bF_ BK262.out 1; have hfz58_2 := bF_ BK262.out 2; have hfz58_3 := bF_ BK262.out 3; have hfz58_4 := bF_ BK262.out 4; have hfz58_5 := bF_ BK262.out 5; have hcz59_0 : w56.cell? ⟨gb247, 0, none⟩ = some (.int .i64 a1_0) := (bC_ BK247.out 0).trans rfl; have hcz59_1 : w56.cell? ⟨gb247, 1, none⟩ = some (.int .i64 a1_1) := (bC_ BK247.out 1).trans rfl; have hcz59_2 : w56.cell? ⟨gb247, 2, none⟩ = some (.int .i64 a1_2) := (bC_ BK247.out 2).trans rfl; have hcz59_3 : w56.cell? ⟨gb247, 3, none⟩ = some (.int .i64 a1_3) := (bC_ BK247.out 3).trans rfl; have hcz59_4 : w56.cell? ⟨gb247, 4, none⟩ = some (.int .i64 a1_4) := (bC_ BK247.out 4).trans rfl; have hcz59_5 : w56.cell? ⟨gb247, 5, none⟩ = some (.int .i64 a1_5) := (bC_ BK247.out 5).trans rfl; have hfz59_0 := bF_ BK247.out 0; have hfz59_1 := bF_ BK247.out 1; have hfz59_2 := bF_ BK247.out 2; have hfz59_3 := bF_ BK247.out 3; have hfz59_4 := bF_ BK247.out 4; have hfz59_5 := bF_ BK247.out 5) | ((with_reducible refine gate_callee (f := 140) rfl ?_); refine goesL_ (some 47) rfl rfl Try.func140 z126_14 rfl #[.agg #[.int .i64 a1_0, .int .i64 a1_1, .int .i64 a1_2, .int .i64 a1_3, .int .i64 a1_4, .int .i64 a1_5], .agg #[.int .i64 ((rd_T75 l0 x8_2).f0), .int .i64 ((rd_T75 l0 x8_2).f1), .int .i64 ((rd_T75 l0 x8_2).f2), .int .i64 ((rd_T75 l0 x8_2).f3), .int .i64 ((rd_T75 l0 x8_2).f4), .int .i64 ((rd_T75 l0 x8_2).f5)]] rfl z126_6 ?_; (with_reducible refine (spec_SameClaim.calls a1_0 a1_1 a1_2 a1_3 a1_4 a1_5 ((rd_T75 l0 x8_2).f0) ((rd_T75 l0 x8_2).f1) ((rd_T75 l0 x8_2).f2) ((rd_T75 l0 x8_2).f3) ((rd_T75 l0 x8_2).f4) ((rd_T75 l0 x8_2).f5) true _ A32.out).mono ?_); rintro e w60 ⟨rfl, hb⟩; refine ⟨_, rfl, ?_⟩; have n0_ := Aside0.mk (Kd.R_below z126_4 hb); have n1_ := Aside0.mk (blk_below (g := gb247) (o := .cells #[.int .i64 a1_0, .int .i64 a1_1, .int .i64 a1_2, .int .i64 a1_3, .int .i64 a1_4, .int .i64 a1_5] 75 (0, 0)) z126_0 hb); have n2_ := Aside0.mk (blk_below (g := gb262) (o := .cells #[.int .i64 ((rd_T75 l0 x8_2).f0), .int .i64 ((rd_T75 l0 x8_2).f1), .int .i64 ((rd_T75 l0 x8_2).f2), .int .i64 ((rd_T75 l0 x8_2).f3), .int .i64 ((rd_T75 l0 x8_2).f4), .int .i64 ((rd_T75 l0 x8_2).f5)] 75 (0, 0)) z126_1 hb); have n3_ := Aside0.mk (below_step z126_5 hb); clear HO_6; clear BK247; clear BK262; clear HB; have HO_6 := n0_; have BK247 := n1_; have BK262 := n2_; have HB := n3_; clear n0_ n1_ n2_ n3_; (try clear hb); (try clear hb2); (try clear hk); (try clear hi); have hcz61_0 : w60.cell? ⟨gb247, 0, none⟩ = some (.int .i64 a1_0) := (bC_ BK247.out 0).trans rfl; have hcz61_1 : w60.cell? ⟨gb247, 1, none⟩ = some (.int .i64 a1_1) := (bC_ BK247.out 1).trans rfl; have hcz61_2 : w60.cell? ⟨gb247, 2, none⟩ = some (.int .i64 a1_2) := (bC_ BK247.out 2).trans rfl; have hcz61_3 : w60.cell? ⟨gb247, 3, none⟩ = some (.int .i64 a1_3) := (bC_ BK247.out 3).trans rfl; have hcz61_4 : w60.cell? ⟨gb247, 4, none⟩ = some (.int .i64 a1_4) := (bC_ BK247.out 4).trans rfl; have hcz61_5 : w60.cell? ⟨gb247, 5, none⟩ = some (.int .i64 a1_5) := (bC_ BK247.out 5).trans rfl; have hfz61_0 := bF_ BK247.out 0; have hfz61_1 := bF_ BK247.out 1; have hfz61_2 := bF_ BK247.out 2; have hfz61_3 := bF_ BK247.out 3; have hfz61_4 := bF_ BK247.out 4; have hfz61_5 := bF_ BK247.out 5; have hcz62_0 : w60.cell? ⟨gb262, 0, none⟩ = some (.int .i64 ((rd_T75 l0 x8_2).f0)) := (bC_ BK262.out 0).trans rfl; have hcz62_1 : w60.cell? ⟨gb262, 1, none⟩ = some (.int .i64 ((rd_T75 l0 x8_2).f1)) := (bC_ BK262.out 1).trans rfl; have hcz62_2 : w60.cell? ⟨gb262, 2, none⟩ = some (.int .i64 ((rd_T75 l0 x8_2).f2)) := (bC_ BK262.out 2).trans rfl; have hcz62_3 : w60.cell? ⟨gb262, 3, none⟩ = some (.int .i64 ((rd_T75 l0 x8_2).f3)) := (bC_ BK262.out 3).trans rfl; have hcz62_4 : w60.cell? ⟨gb262, 4, none⟩ = some (.int .i64 ((rd_T75 l0 x8_2).f4)) := (bC_ BK262.out 4).trans rfl; have hcz62_5 : w60.cell? ⟨gb262, 5, none⟩ = some (.int .i64 ((rd_T75 l0 x8_2).f5)) := (bC_ BK262.out 5).trans rfl; have hfz62_0 := bF_ BK262.out 0; have hfz62_1 := bF_ BK262.out 1; have hfz62_2 := bF_ BK262.out 2; have hfz62_3 := bF_ BK262.out 3; have hfz62_4 := bF_ BK262.out 4; have hfz62_5 := bF_ BK262.out 5) | ((with_reducible refine gate_builtin (b := .append) (xs := #[.tmp 68, .tmp 70]) rfl ?_); at_builtin; refine Kd.R_append k75 (w0 := w) w.heap.size rfl (.tmp 68) (.tmp 70) 30 75 (.agg #[(.int .i64 0), (.int .i64 0), (.int .i64 0), (.int .i64 0), (.int .i64 0), (.int .i64 0)]) 48 rfl Try.underlying30 info75 rfl (by decide) (by omega) u6 x6_24 (⟨(rd_T75 l0 x8_2).f0, (rd_T75 l0 x8_2).f1, (rd_T75 l0 x8_2).f2, (rd_T75 l0 x8_2).f3, (rd_T75 l0 x8_2).f4, (rd_T75 l0 x8_2).f5⟩ : S75) [.int .i64 ((rd_T75 l0 x8_2).f0), .int .i64 ((rd_T75 l0 x8_2).f1), .int .i64 ((rd_T75 l0 x8_2).f2), .int .i64 ((rd_T75 l0 x8_2).f3), .int .i64 ((rd_T75 l0 x8_2).f4), .int .i64 ((rd_T75 l0 x8_2).f5)] (fun k_ => k_ ≠ gb247 ∧ k_ ≠ gb262) (fun _ => False) rfl rfl ?aP (fun _ hk => hk.elim) ?aF ?aO ?aB ?aS ?aL ?_; (case aP => exact k75_mkM _ _ _ (⟨(rd_T75 l0 x8_2).f0, (rd_T75 l0 x8_2).f1, (rd_T75 l0 x8_2).f2, (rd_T75 l0 x8_2).f3, (rd_T75 l0 x8_2).f4, (rd_T75 l0 x8_2).f5⟩ : S75)); (case aB => exact z126_5); (case aF => exact (fun k_ hk => ⟨Kd.freshB (g := gb247) (o := .cells #[.int .i64 a1_0, .int .i64 a1_1, .int .i64 a1_2, .int .i64 a1_3, .int .i64 a1_4, .int .i64 a1_5] 75 (0, 0)) (pB126_ BK247.out) k_ hk, Kd.freshB (g := gb262) (o := .cells #[.int .i64 ((rd_T75 l0 x8_2).f0), .int .i64 ((rd_T75 l0 x8_2).f1), .int .i64 ((rd_T75 l0 x8_2).f2), .int .i64 ((rd_T75 l0 x8_2).f3), .int .i64 ((rd_T75 l0 x8_2).f4), .int .i64 ((rd_T75 l0 x8_2).f5)] 75 (0, 0)) (pB126_ BK262.out) k_ hk⟩)); (case aO => exact (pR126_ HO_6.out)); (case aS => exact (below_size z126_5)); (case aL => have := LMc55.out; omega); intro v271 w63 ho hb hg hat; rw [← Ny270.out] at ho; have n0_ := Aside0.mk (blk_grown (g := gb247) (o := .cells #[.int .i64 a1_0, .int .i64 a1_1, .int .i64 a1_2, .int .i64 a1_3, .int .i64 a1_4, .int .i64 a1_5] 75 (0, 0)) (pB126_ BK247.out) hg (Kd.R_away HO_6.out (fun _ hk => hk.1))); have n1_ := Aside0.mk (blk_grown (g := gb262) (o := .cells #[.int .i64 ((rd_T75 l0 x8_2).f0), .int .i64 ((rd_T75 l0 x8_2).f1), .int .i64 ((rd_T75 l0 x8_2).f2), .int .i64 ((rd_T75 l0 x8_2).f3), .int .i64 ((rd_T75 l0 x8_2).f4), .int .i64 ((rd_T75 l0 x8_2).f5)] 75 (0, 0)) (pB126_ BK262.out) hg (Kd.R_away HO_6.out (fun _ hk => hk.2))); have n2_ := Aside0.mk (hb); have n3_ := Aside0.mk (ho); clear BK247; clear BK262; clear HB; clear HO_6; have BK247 := n0_; have BK262 := n1_; have HB := n2_; have HO272 := n3_; clear n0_ n1_ n2_ n3_; clear ho hb hg hat))
                                    go_roundg kj24
                                    case measure => have := HJ2.out; have := HK2.out; have := HJ17.out; have := HJ24.out; omega
                                    case rel => exact ⟨(y270), (true), (wrap64 (x8_2 + 1)), z126_9, z126_9, H', ⟨by have := HJ2.out; have := HK2.out; have := HJ17.out; have := HJ24.out; omega⟩, ⟨by (with_reducible repeat (first | apply Kd.R_alloc | apply Kd.R_drewN | apply Kd.R_drew)); exact Kd.R_mono HO272.out (fun _ hk => hk.1)⟩, ⟨by (with_reducible repeat (first | refine blk_drewN ?_ _ | refine blk_drew ?_ | refine blk_alloc ?_ _)); exact BK247.out⟩, ⟨by repeat (first | (with_reducible first | exact HB.out | apply bA_ | apply bN_ | apply bD_ | refine bS_ ?_ GE247.out | refine bS_ ?_ GE262.out) | exact HB.out)⟩⟩
                                  · rw [if_neg c55] at H
                                    exact absurd H (by simp)
                              · rw [if_neg c44] at H
                                have c44b0 : (a1_4 == ((rd_T75 l0 x8_2).f4)) = false := beq_eq_false_iff_ne.mpr c44
                                have c44b1 : (a1_4 != ((rd_T75 l0 x8_2).f4)) = true := bne_iff_ne.mpr c44
                                by_cases c64 : x6_24.length < 2932031007402
                                · rw [if_pos c64] at H
                                  have LMc64 := Aside0.mk c64
                                  clear c64
                                  obtain ⟨y273, hy273⟩ : ∃ y_ : List (S75), y_ = (x6_24 ++ [(⟨(rd_T75 l0 x8_2).f0, (rd_T75 l0 x8_2).f1, (rd_T75 l0 x8_2).f2, (rd_T75 l0 x8_2).f3, (rd_T75 l0 x8_2).f4, (rd_T75 l0 x8_2).f5⟩ : S75)]) := ⟨_, rfl⟩
                                  replace H : (spec_PutFact.l0 kj24 l0 y273 true (wrap64 (x8_2 + 1)) a1_0 a1_1 a1_2 a1_3 a1_4 a1_5) = some (r1, r2) := by first | (rw [hy273]; with_reducible exact H) | (have H2_ := (Option.bind_some _ _).symm.trans H; rw [hy273]; with_reducible exact H2_) | (have H2_ := (Option.bind_some _ _).symm.trans H; with_reducible exact H2_) | with_reducible exact H | (rw [hy273]; exact H) | exact H
                                  have Ny273 := Aside0.mk hy273
                                  clear hy273
                                  have H' := Aside0.mk H
                                  clear H
                                  have p261 : 0 ≤ (x8_2 : Int) := of_decide_eq_true z126_11
                                  have q261 : x8_2 < (l0.length : Int) := of_decide_eq_true z126_11
                                  obtain ⟨ad261, e261, hx261_0, hx261_1, hx261_2, hx261_3, hx261_4, hx261_5⟩ := at_T75 HR0.out x8_2 p261 q261
                                  cases e261
                                  replace hx261_0 := (HB.out.cell (World.block_lt_of_cell? w _ hx261_0)).trans hx261_0
                                  replace hx261_1 := (HB.out.cell (World.block_lt_of_cell? w _ hx261_1)).trans hx261_1
                                  replace hx261_2 := (HB.out.cell (World.block_lt_of_cell? w _ hx261_2)).trans hx261_2
                                  replace hx261_3 := (HB.out.cell (World.block_lt_of_cell? w _ hx261_3)).trans hx261_3
                                  replace hx261_4 := (HB.out.cell (World.block_lt_of_cell? w _ hx261_4)).trans hx261_4
                                  replace hx261_5 := (HB.out.cell (World.block_lt_of_cell? w _ hx261_5)).trans hx261_5
                                  replace p261 := eq_true p261
                                  replace q261 := eq_true q261
                                  go_wp2_with (first | ((with_reducible refine gate_dst (N := 9) rfl ?_); refine box_event ?hg (N := 9) ?hd (cs := #[.int .i64 0, .int .i64 0, .int .i64 0, .int .i64 0, .int .i64 0, .int .i64 0]) (t := 75) ?hr ?_; (case hd => rfl); (case hg => rfl); (case hr => first | (go_simp; done) | (go_simp; rfl)); intro gb262 hg w65 hbox hb; have n0_ := Aside0.mk (Kd.R_below (Kd.R_elderB (pR126_ HO_6.out) gb262 (Nat.le_of_eq hg.symm)) hb); have n1_ := Aside0.mk (blk_below (g := gb247) (o := .cells #[.int .i64 a1_0, .int .i64 a1_1, .int .i64 a1_2, .int .i64 a1_3, .int .i64 a1_4, .int .i64 a1_5] 75 (0, 0)) (pB126_ BK247.out) hb); have n2_ := Aside0.mk (below_step z126_3 hb); have n3_ := Aside0.mk (hbox); have n4_ := Aside0.mk ((z126_12 : w.heap.size ≤ gb262)); have n5_ := Aside0.mk ((z126_12 : w.heap.size ≤ gb262)); have n6_ := Aside0.mk ((z126_7 : gb247 ≠ gb262)); have n7_ := Aside0.mk ((z126_8 : gb262 ≠ gb247)); clear HO_6; clear BK247; clear HB; have HO_6 := n0_; have BK247 := n1_; have HB := n2_; have BK262 := n3_; have GW262 := n4_; have GE262 := n5_; have NB247_262 := n6_; have NB262_247 := n7_; clear n0_ n1_ n2_ n3_ n4_ n5_ n6_ n7_; clear hb hbox hg; have hnb66 := NB262_247.out; have hnc66 := NB247_262.out; have hcz67_0 : w65.cell? ⟨gb262, 0, none⟩ = some (.int .i64 0) := (bC_ BK262.out 0).trans rfl; have hcz67_1 : w65.cell? ⟨gb262, 1, none⟩ = some (.int .i64 0) := (bC_ BK262.out 1).trans rfl; have hcz67_2 : w65.cell? ⟨gb262, 2, none⟩ = some (.int .i64 0) := (bC_ BK262.out 2).trans rfl; have hcz67_3 : w65.cell? ⟨gb262, 3, none⟩ = some (.int .i64 0) := (bC_ BK262.out 3).trans rfl; have hcz67_4 : w65.cell? ⟨gb262, 4, none⟩ = some (.int .i64 0) := (bC_ BK262.out 4).trans rfl; have hcz67_5 : w65.cell? ⟨gb262, 5, none⟩ = some (.int .i64 0) := (bC_ BK262.out 5).trans rfl; have hfz67_0 := bF_ BK262.out 0; have hfz67_1 := bF_ BK262.out 1; have hfz67_2 := bF_ BK262.out 2; have hfz67_3 := bF_ BK262.out 3; have hfz67_4 := bF_ BK262.out 4; have hfz67_5 := bF_ BK262.out 5; have hcz68_0 : w65.cell? ⟨gb247, 0, none⟩ = some (.int .i64 a1_0) := (bC_ BK247.out 0).trans rfl; have hcz68_1 : w65.cell? ⟨gb247, 1, none⟩ = some (.int .i64 a1_1) := (bC_ BK247.out 1).trans rfl; have hcz68_2 : w65.cell? ⟨gb247, 2, none⟩ = some (.int .i64 a1_2) := (bC_ BK247.out 2).trans rfl; have hcz68_3 : w65.cell? ⟨gb247, 3, none⟩ = some (.int .i64 a1_3) := (bC_ BK247.out 3).trans rfl; have hcz68_4 : w65.cell? ⟨gb247, 4, none⟩ = some (.int .i64 a1_4) := (bC_ BK247.out 4).trans rfl; have hcz68_5 : w65.cell? ⟨gb247, 5, none⟩ = some (.int .i64 a1_5) := (bC_ BK247.out 5).trans rfl; have hfz68_0 := bF_ BK247.out 0; have hfz68_1 := bF_ BK247.out 1; have hfz68_2 := bF_ BK247.out 2; have hfz68_3 := bF_ BK247.out 3; have hfz68_4 := bF_ BK247.out 4; have hfz68_5 := bF_ BK247.out 5) | ((with_reducible refine gate_callee (f := 140) rfl ?_); refine goesL_ (some 47) rfl rfl Try.func140 z126_14 rfl #[.agg #[.int .i64 a1_0, .int .i64 a1_1, .int .i64 a1_2, .int .i64 a1_3, .int .i64 a1_4, .int .i64 a1_5], .agg #[.int .i64 ((rd_T75 l0 x8_2).f0), .int .i64 ((rd_T75 l0 x8_2).f1), .int .i64 ((rd_T75 l0 x8_2).f2), .int .i64 ((rd_T75 l0 x8_2).f3), .int .i64 ((rd_T75 l0 x8_2).f4), .int .i64 ((rd_T75 l0 x8_2).f5)]] rfl z126_6 ?_; (with_reducible refine (spec_SameClaim.calls a1_0 a1_1 a1_2 a1_3 a1_4 a1_5 ((rd_T75 l0 x8_2).f0) ((rd_T75 l0 x8_2).f1) ((rd_T75 l0 x8_2).f2) ((rd_T75 l0 x8_2).f3) ((rd_T75 l0 x8_2).f4) ((rd_T75 l0 x8_2).f5) true _ A32.out).mono ?_); rintro e w69 ⟨rfl, hb⟩; refine ⟨_, rfl, ?_⟩; have n0_ := Aside0.mk (Kd.R_below z126_4 hb); have n1_ := Aside0.mk (blk_below (g := gb247) (o := .cells #[.int .i64 a1_0, .int .i64 a1_1, .int .i64 a1_2, .int .i64 a1_3, .int .i64 a1_4, .int .i64 a1_5] 75 (0, 0)) z126_0 hb); have n2_ := Aside0.mk (blk_below (g := gb262) (o := .cells #[.int .i64 ((rd_T75 l0 x8_2).f0), .int .i64 ((rd_T75 l0 x8_2).f1), .int .i64 ((rd_T75 l0 x8_2).f2), .int .i64 ((rd_T75 l0 x8_2).f3), .int .i64 ((rd_T75 l0 x8_2).f4), .int .i64 ((rd_T75 l0 x8_2).f5)] 75 (0, 0)) z126_1 hb); have n3_ := Aside0.mk (below_step z126_5 hb); clear HO_6; clear BK247; clear BK262; clear HB; have HO_6 := n0_; have BK247 := n1_; have BK262 := n2_; have HB := n3_; clear n0_ n1_ n2_ n3_; (try clear hb); (try clear hb2); (try clear hk); (try clear hi); have hcz70_0 : w69.cell? ⟨gb247, 0, none⟩ = some (.int .i64 a1_0) := (bC_ BK247.out 0).trans rfl; have hcz70_1 : w69.cell? ⟨gb247, 1, none⟩ = some (.int .i64 a1_1) := (bC_ BK247.out 1).trans rfl; have hcz70_2 : w69.cell? ⟨gb247, 2, none⟩ = some (.int .i64 a1_2) := (bC_ BK247.out 2).trans rfl; have hcz70_3 : w69.cell? ⟨gb247, 3, none⟩ = some (.int .i64 a1_3) := (bC_ BK247.out 3).trans rfl; have hcz70_4 : w69.cell? ⟨gb247, 4, none⟩ = some (.int .i64 a1_4) := (bC_ BK247.out 4).trans rfl; have hcz70_5 : w69.cell? ⟨gb247, 5, none⟩ = some (.int .i64 a1_5) := (bC_ BK247.out 5).trans rfl; have hfz70_0 := bF_ BK247.out 0; have hfz70_1 := bF_ BK247.out 1; have hfz70_2 := bF_ BK247.out 2; have hfz70_3 := bF_ BK247.out 3; have hfz70_4 := bF_ BK247.out 4; have hfz70_5 := bF_ BK247.out 5; have hcz71_0 : w69.cell? ⟨gb262, 0, none⟩ = some (.int .i64 ((rd_T75 l0 x8_2).f0)) := (bC_ BK262.out 0).trans rfl; have hcz71_1 : w69.cell? ⟨gb262, 1, none⟩ = some (.int .i64 ((rd_T75 l0 x8_2).f1)) := (bC_ BK262.out 1).trans rfl; have hcz71_2 : w69.cell? ⟨gb262, 2, none⟩ = some (.int .i64 ((rd_T75 l0 x8_2).f2)) := (bC_ BK262.out 2).trans rfl; have hcz71_3 : w69.cell? ⟨gb262, 3, none⟩ = some (.int .i64 ((rd_T75 l0 x8_2).f3)) := (bC_ BK262.out 3).trans rfl; have hcz71_4 : w69.cell? ⟨gb262, 4, none⟩ = some (.int .i64 ((rd_T75 l0 x8_2).f4)) := (bC_ BK262.out 4).trans rfl; have hcz71_5 : w69.cell? ⟨gb262, 5, none⟩ = some (.int .i64 ((rd_T75 l0 x8_2).f5)) := (bC_ BK262.out 5).trans rfl; have hfz71_0 := bF_ BK262.out 0; have hfz71_1 := bF_ BK262.out 1; have hfz71_2 := bF_ BK262.out 2; have hfz71_3 := bF_ BK262.out 3; have hfz71_4 := bF_ BK262.out 4; have hfz71_5 := bF_ BK262.out 5) | ((with_reducible refine gate_builtin (b := .append) (xs := #[.tmp 68, .tmp 70]) rfl ?_); at_builtin; refine Kd.R_append k75 (w0 := w) w.heap.size rfl (.tmp 68) (.tmp 70) 30 75 (.agg #[(.int .i64 0), (.int .i64 0), (.int .i64 0), (.int .i64 0), (.int .i64 0), (.int .i64 0)]) 48 rfl Try.underlying30 info75 rfl (by decide) (by omega) u6 x6_24 (⟨(rd_T75 l0 x8_2).f0, (rd_T75 l0 x8_2).f1, (rd_T75 l0 x8_2).f2, (rd_T75 l0 x8_2).f3, (rd_T75 l0 x8_2).f4, (rd_T75 l0 x8_2).f5⟩ : S75) [.int .i64 ((rd_T75 l0 x8_2).f0), .int .i64 ((rd_T75 l0 x8_2).f1), .int .i64 ((rd_T75 l0 x8_2).f2), .int .i64 ((rd_T75 l0 x8_2).f3), .int .i64 ((rd_T75 l0 x8_2).f4), .int .i64 ((rd_T75 l0 x8_2).f5)] (fun k_ => k_ ≠ gb247 ∧ k_ ≠ gb262) (fun _ => False) rfl rfl ?aP (fun _ hk => hk.elim) ?aF ?aO ?aB ?aS ?aL ?_; (case aP => exact k75_mkM _ _ _ (⟨(rd_T75 l0 x8_2).f0, (rd_T75 l0 x8_2).f1, (rd_T75 l0 x8_2).f2, (rd_T75 l0 x8_2).f3, (rd_T75 l0 x8_2).f4, (rd_T75 l0 x8_2).f5⟩ : S75)); (case aB => exact z126_5); (case aF => exact (fun k_ hk => ⟨Kd.freshB (g := gb247) (o := .cells #[.int .i64 a1_0, .int .i64 a1_1, .int .i64 a1_2, .int .i64 a1_3, .int .i64 a1_4, .int .i64 a1_5] 75 (0, 0)) (pB126_ BK247.out) k_ hk, Kd.freshB (g := gb262) (o := .cells #[.int .i64 ((rd_T75 l0 x8_2).f0), .int .i64 ((rd_T75 l0 x8_2).f1), .int .i64 ((rd_T75 l0 x8_2).f2), .int .i64 ((rd_T75 l0 x8_2).f3), .int .i64 ((rd_T75 l0 x8_2).f4), .int .i64 ((rd_T75 l0 x8_2).f5)] 75 (0, 0)) (pB126_ BK262.out) k_ hk⟩)); (case aO => exact (pR126_ HO_6.out)); (case aS => exact (below_size z126_5)); (case aL => have := LMc64.out; omega); intro v274 w72 ho hb hg hat; rw [← Ny273.out] at ho; have n0_ := Aside0.mk (blk_grown (g := gb247) (o := .cells #[.int .i64 a1_0, .int .i64 a1_1, .int .i64 a1_2, .int .i64 a1_3, .int .i64 a1_4, .int .i64 a1_5] 75 (0, 0)) (pB126_ BK247.out) hg (Kd.R_away HO_6.out (fun _ hk => hk.1))); have n1_ := Aside0.mk (blk_grown (g := gb262) (o := .cells #[.int .i64 ((rd_T75 l0 x8_2).f0), .int .i64 ((rd_T75 l0 x8_2).f1), .int .i64 ((rd_T75 l0 x8_2).f2), .int .i64 ((rd_T75 l0 x8_2).f3), .int .i64 ((rd_T75 l0 x8_2).f4), .int .i64 ((rd_T75 l0 x8_2).f5)] 75 (0, 0)) (pB126_ BK262.out) hg (Kd.R_away HO_6.out (fun _ hk => hk.2))); have n2_ := Aside0.mk (hb); have n3_ := Aside0.mk (ho); clear BK247; clear BK262; clear HB; clear HO_6; have BK247 := n0_; have BK262 := n1_; have HB := n2_; have HO275 := n3_; clear n0_ n1_ n2_ n3_; clear ho hb hg hat))
                                  go_roundg kj24
                                  case measure => have := HJ2.out; have := HK2.out; have := HJ17.out; have := HJ24.out; omega
                                  case rel => exact ⟨(y273), (true), (wrap64 (x8_2 + 1)), z126_9, z126_9, H', ⟨by have := HJ2.out; have := HK2.out; have := HJ17.out; have := HJ24.out; omega⟩, ⟨by (with_reducible repeat (first | apply Kd.R_alloc | apply Kd.R_drewN | apply Kd.R_drew)); exact Kd.R_mono HO275.out (fun _ hk => hk.1)⟩, ⟨by (with_reducible repeat (first | refine blk_drewN ?_ _ | refine blk_drew ?_ | refine blk_alloc ?_ _)); exact BK247.out⟩, ⟨by repeat (first | (with_reducible first | exact HB.out | apply bA_ | apply bN_ | apply bD_ | refine bS_ ?_ GE247.out | refine bS_ ?_ GE262.out) | exact HB.out)⟩⟩
                                · rw [if_neg c64] at H
                                  exact absurd H (by simp)
                          · replace c33 := Bool.eq_false_iff.mpr c33
                            subst c33
                            have H1 : (if x6_24.length < 2932031007402 then (spec_PutFact.l0 kj24 l0 (x6_24 ++ [(⟨(rd_T75 l0 x8_2).f0, (rd_T75 l0 x8_2).f1, (rd_T75 l0 x8_2).f2, (rd_T75 l0 x8_2).f3, (rd_T75 l0 x8_2).f4, (rd_T75 l0 x8_2).f5⟩ : S75)]) x7_24 (wrap64 (x8_2 + 1)) a1_0 a1_1 a1_2 a1_3 a1_4 a1_5) else (none)) = some (r1, r2) := by rw [if_neg (show ¬ (false = true) by decide)] at H; exact H
                            clear H
                            have H := H1
                            clear H1
                            by_cases c73 : x6_24.length < 2932031007402
                            · rw [if_pos c73] at H
                              have LMc73 := Aside0.mk c73
                              clear c73
                              obtain ⟨y276, hy276⟩ : ∃ y_ : List (S75), y_ = (x6_24 ++ [(⟨(rd_T75 l0 x8_2).f0, (rd_T75 l0 x8_2).f1, (rd_T75 l0 x8_2).f2, (rd_T75 l0 x8_2).f3, (rd_T75 l0 x8_2).f4, (rd_T75 l0 x8_2).f5⟩ : S75)]) := ⟨_, rfl⟩
                              replace H : (spec_PutFact.l0 kj24 l0 y276 x7_24 (wrap64 (x8_2 + 1)) a1_0 a1_1 a1_2 a1_3 a1_4 a1_5) = some (r1, r2) := by first | (rw [hy276]; with_reducible exact H) | (have H2_ := (Option.bind_some _ _).symm.trans H; rw [hy276]; with_reducible exact H2_) | (have H2_ := (Option.bind_some _ _).symm.trans H; with_reducible exact H2_) | with_reducible exact H | (rw [hy276]; exact H) | exact H
                              have Ny276 := Aside0.mk hy276
                              clear hy276
                              have H' := Aside0.mk H
                              clear H
                              have p261 : 0 ≤ (x8_2 : Int) := of_decide_eq_true z126_11
                              have q261 : x8_2 < (l0.length : Int) := of_decide_eq_true z126_11
                              obtain ⟨ad261, e261, hx261_0, hx261_1, hx261_2, hx261_3, hx261_4, hx261_5⟩ := at_T75 HR0.out x8_2 p261 q261
                              cases e261
                              replace hx261_0 := (HB.out.cell (World.block_lt_of_cell? w _ hx261_0)).trans hx261_0
                              replace hx261_1 := (HB.out.cell (World.block_lt_of_cell? w _ hx261_1)).trans hx261_1
                              replace hx261_2 := (HB.out.cell (World.block_lt_of_cell? w _ hx261_2)).trans hx261_2
                              replace hx261_3 := (HB.out.cell (World.block_lt_of_cell? w _ hx261_3)).trans hx261_3
                              replace hx261_4 := (HB.out.cell (World.block_lt_of_cell? w _ hx261_4)).trans hx261_4
                              replace hx261_5 := (HB.out.cell (World.block_lt_of_cell? w _ hx261_5)).trans hx261_5
                              replace p261 := eq_true p261
                              replace q261 := eq_true q261
                              go_wp2_with (first | ((with_reducible refine gate_dst (N := 9) rfl ?_); refine box_event ?hg (N := 9) ?hd (cs := #[.int .i64 0, .int .i64 0, .int .i64 0, .int .i64 0, .int .i64 0, .int .i64 0]) (t := 75) ?hr ?_; (case hd => rfl); (case hg => rfl); (case hr => first | (go_simp; done) | (go_simp; rfl)); intro gb262 hg w74 hbox hb; have n0_ := Aside0.mk (Kd.R_below (Kd.R_elderB (pR126_ HO_6.out) gb262 (Nat.le_of_eq hg.symm)) hb); have n1_ := Aside0.mk (blk_below (g := gb247) (o := .cells #[.int .i64 a1_0, .int .i64 a1_1, .int .i64 a1_2, .int .i64 a1_3, .int .i64 a1_4, .int .i64 a1_5] 75 (0, 0)) (pB126_ BK247.out) hb); have n2_ := Aside0.mk (below_step z126_3 hb); have n3_ := Aside0.mk (hbox); have n4_ := Aside0.mk ((z126_12 : w.heap.size ≤ gb262)); have n5_ := Aside0.mk ((z126_12 : w.heap.size ≤ gb262)); have n6_ := Aside0.mk ((z126_7 : gb247 ≠ gb262)); have n7_ := Aside0.mk ((z126_8 : gb262 ≠ gb247)); clear HO_6; clear BK247; clear HB; have HO_6 := n0_; have BK247 := n1_; have HB := n2_; have BK262 := n3_; have GW262 := n4_; have GE262 := n5_; have NB247_262 := n6_; have NB262_247 := n7_; clear n0_ n1_ n2_ n3_ n4_ n5_ n6_ n7_; clear hb hbox hg; have hnb75 := NB262_247.out; have hnc75 := NB247_262.out; have hcz76_0 : w74.cell? ⟨gb262, 0, none⟩ = some (.int .i64 0) := (bC_ BK262.out 0).trans rfl; have hcz76_1 : w74.cell? ⟨gb262, 1, none⟩ = some (.int .i64 0) := (bC_ BK262.out 1).trans rfl; have hcz76_2 : w74.cell? ⟨gb262, 2, none⟩ = some (.int .i64 0) := (bC_ BK262.out 2).trans rfl; have hcz76_3 : w74.cell? ⟨gb262, 3, none⟩ = some (.int .i64 0) := (bC_ BK262.out 3).trans rfl; have hcz76_4 : w74.cell? ⟨gb262, 4, none⟩ = some (.int .i64 0) := (bC_ BK262.out 4).trans rfl; have hcz76_5 : w74.cell? ⟨gb262, 5, none⟩ = some (.int .i64 0) := (bC_ BK262.out 5).trans rfl; have hfz76_0 := bF_ BK262.out 0; have hfz76_1 := bF_ BK262.out 1; have hfz76_2 := bF_ BK262.out 2; have hfz76_3 := bF_ BK262.out 3; have hfz76_4 := bF_ BK262.out 4; have hfz76_5 := bF_ BK262.out 5; have hcz77_0 : w74.cell? ⟨gb247, 0, none⟩ = some (.int .i64 a1_0) := (bC_ BK247.out 0).trans rfl; have hcz77_1 : w74.cell? ⟨gb247, 1, none⟩ = some (.int .i64 a1_1) := (bC_ BK247.out 1).trans rfl; have hcz77_2 : w74.cell? ⟨gb247, 2, none⟩ = some (.int .i64 a1_2) := (bC_ BK247.out 2).trans rfl; have hcz77_3 : w74.cell? ⟨gb247, 3, none⟩ = some (.int .i64 a1_3) := (bC_ BK247.out 3).trans rfl; have hcz77_4 : w74.cell? ⟨gb247, 4, none⟩ = some (.int .i64 a1_4) := (bC_ BK247.out 4).trans rfl; have hcz77_5 : w74.cell? ⟨gb247, 5, none⟩ = some (.int .i64 a1_5) := (bC_ BK247.out 5).trans rfl; have hfz77_0 := bF_ BK247.out 0; have hfz77_1 := bF_ BK247.out 1; have hfz77_2 := bF_ BK247.out 2; have hfz77_3 := bF_ BK247.out 3; have hfz77_4 := bF_ BK247.out 4; have hfz77_5 := bF_ BK247.out 5) | ((with_reducible refine gate_callee (f := 140) rfl ?_); refine goesL_ (some 47) rfl rfl Try.func140 z126_14 rfl #[.agg #[.int .i64 a1_0, .int .i64 a1_1, .int .i64 a1_2, .int .i64 a1_3, .int .i64 a1_4, .int .i64 a1_5], .agg #[.int .i64 ((rd_T75 l0 x8_2).f0), .int .i64 ((rd_T75 l0 x8_2).f1), .int .i64 ((rd_T75 l0 x8_2).f2), .int .i64 ((rd_T75 l0 x8_2).f3), .int .i64 ((rd_T75 l0 x8_2).f4), .int .i64 ((rd_T75 l0 x8_2).f5)]] rfl z126_6 ?_; (with_reducible refine (spec_SameClaim.calls a1_0 a1_1 a1_2 a1_3 a1_4 a1_5 ((rd_T75 l0 x8_2).f0) ((rd_T75 l0 x8_2).f1) ((rd_T75 l0 x8_2).f2) ((rd_T75 l0 x8_2).f3) ((rd_T75 l0 x8_2).f4) ((rd_T75 l0 x8_2).f5) false _ A32.out).mono ?_); rintro e w78 ⟨rfl, hb⟩; refine ⟨_, rfl, ?_⟩; have n0_ := Aside0.mk (Kd.R_below z126_4 hb); have n1_ := Aside0.mk (blk_below (g := gb247) (o := .cells #[.int .i64 a1_0, .int .i64 a1_1, .int .i64 a1_2, .int .i64 a1_3, .int .i64 a1_4, .int .i64 a1_5] 75 (0, 0)) z126_0 hb); have n2_ := Aside0.mk (blk_below (g := gb262) (o := .cells #[.int .i64 ((rd_T75 l0 x8_2).f0), .int .i64 ((rd_T75 l0 x8_2).f1), .int .i64 ((rd_T75 l0 x8_2).f2), .int .i64 ((rd_T75 l0 x8_2).f3), .int .i64 ((rd_T75 l0 x8_2).f4), .int .i64 ((rd_T75 l0 x8_2).f5)] 75 (0, 0)) z126_1 hb); have n3_ := Aside0.mk (below_step z126_5 hb); clear HO_6; clear BK247; clear BK262; clear HB; have HO_6 := n0_; have BK247 := n1_; have BK262 := n2_; have HB := n3_; clear n0_ n1_ n2_ n3_; (try clear hb); (try clear hb2); (try clear hk); (try clear hi); have hcz79_0 : w78.cell? ⟨gb262, 0, none⟩ = some (.int .i64 ((rd_T75 l0 x8_2).f0)) := (bC_ BK262.out 0).trans rfl; have hcz79_1 : w78.cell? ⟨gb262, 1, none⟩ = some (.int .i64 ((rd_T75 l0 x8_2).f1)) := (bC_ BK262.out 1).trans rfl; have hcz79_2 : w78.cell? ⟨gb262, 2, none⟩ = some (.int .i64 ((rd_T75 l0 x8_2).f2)) := (bC_ BK262.out 2).trans rfl; have hcz79_3 : w78.cell? ⟨gb262, 3, none⟩ = some (.int .i64 ((rd_T75 l0 x8_2).f3)) := (bC_ BK262.out 3).trans rfl; have hcz79_4 : w78.cell? ⟨gb262, 4, none⟩ = some (.int .i64 ((rd_T75 l0 x8_2).f4)) := (bC_ BK262.out 4).trans rfl; have hcz79_5 : w78.cell? ⟨gb262, 5, none⟩ = some (.int .i64 ((rd_T75 l0 x8_2).f5)) := (bC_ BK262.out 5).trans rfl; have hfz79_0 := bF_ BK262.out 0; have hfz79_1 := bF_ BK262.out 1; have hfz79_2 := bF_ BK262.out 2; have hfz79_3 := bF_ BK262.out 3; have hfz79_4 := bF_ BK262.out 4; have hfz79_5 := bF_ BK262.out 5) | ((with_reducible refine gate_builtin (b := .append) (xs := #[.tmp 68, .tmp 70]) rfl ?_); at_builtin; refine Kd.R_append k75 (w0 := w) w.heap.size rfl (.tmp 68) (.tmp 70) 30 75 (.agg #[(.int .i64 0), (.int .i64 0), (.int .i64 0), (.int .i64 0), (.int .i64 0), (.int .i64 0)]) 48 rfl Try.underlying30 info75 rfl (by decide) (by omega) u6 x6_24 (⟨(rd_T75 l0 x8_2).f0, (rd_T75 l0 x8_2).f1, (rd_T75 l0 x8_2).f2, (rd_T75 l0 x8_2).f3, (rd_T75 l0 x8_2).f4, (rd_T75 l0 x8_2).f5⟩ : S75) [.int .i64 ((rd_T75 l0 x8_2).f0), .int .i64 ((rd_T75 l0 x8_2).f1), .int .i64 ((rd_T75 l0 x8_2).f2), .int .i64 ((rd_T75 l0 x8_2).f3), .int .i64 ((rd_T75 l0 x8_2).f4), .int .i64 ((rd_T75 l0 x8_2).f5)] (fun k_ => k_ ≠ gb247 ∧ k_ ≠ gb262) (fun _ => False) rfl rfl ?aP (fun _ hk => hk.elim) ?aF ?aO ?aB ?aS ?aL ?_; (case aP => exact k75_mkM _ _ _ (⟨(rd_T75 l0 x8_2).f0, (rd_T75 l0 x8_2).f1, (rd_T75 l0 x8_2).f2, (rd_T75 l0 x8_2).f3, (rd_T75 l0 x8_2).f4, (rd_T75 l0 x8_2).f5⟩ : S75)); (case aB => exact z126_5); (case aF => exact (fun k_ hk => ⟨Kd.freshB (g := gb247) (o := .cells #[.int .i64 a1_0, .int .i64 a1_1, .int .i64 a1_2, .int .i64 a1_3, .int .i64 a1_4, .int .i64 a1_5] 75 (0, 0)) (pB126_ BK247.out) k_ hk, Kd.freshB (g := gb262) (o := .cells #[.int .i64 ((rd_T75 l0 x8_2).f0), .int .i64 ((rd_T75 l0 x8_2).f1), .int .i64 ((rd_T75 l0 x8_2).f2), .int .i64 ((rd_T75 l0 x8_2).f3), .int .i64 ((rd_T75 l0 x8_2).f4), .int .i64 ((rd_T75 l0 x8_2).f5)] 75 (0, 0)) (pB126_ BK262.out) k_ hk⟩)); (case aO => exact (pR126_ HO_6.out)); (case aS => exact (below_size z126_5)); (case aL => have := LMc73.out; omega); intro v277 w80 ho hb hg hat; rw [← Ny276.out] at ho; have n0_ := Aside0.mk (blk_grown (g := gb247) (o := .cells #[.int .i64 a1_0, .int .i64 a1_1, .int .i64 a1_2, .int .i64 a1_3, .int .i64 a1_4, .int .i64 a1_5] 75 (0, 0)) (pB126_ BK247.out) hg (Kd.R_away HO_6.out (fun _ hk => hk.1))); have n1_ := Aside0.mk (blk_grown (g := gb262) (o := .cells #[.int .i64 ((rd_T75 l0 x8_2).f0), .int .i64 ((rd_T75 l0 x8_2).f1), .int .i64 ((rd_T75 l0 x8_2).f2), .int .i64 ((rd_T75 l0 x8_2).f3), .int .i64 ((rd_T75 l0 x8_2).f4), .int .i64 ((rd_T75 l0 x8_2).f5)] 75 (0, 0)) (pB126_ BK262.out) hg (Kd.R_away HO_6.out (fun _ hk => hk.2))); have n2_ := Aside0.mk (hb); have n3_ := Aside0.mk (ho); clear BK247; clear BK262; clear HB; clear HO_6; have BK247 := n0_; have BK262 := n1_; have HB := n2_; have HO278 := n3_; clear n0_ n1_ n2_ n3_; clear ho hb hg hat))
                              go_roundg kj24
                              case measure => have := HJ2.out; have := HK2.out; have := HJ17.out; have := HJ24.out; omega
                              case rel => exact ⟨(y276), (x7_24), (wrap64 (x8_2 + 1)), z126_9, z126_9, H', ⟨by have := HJ2.out; have := HK2.out; have := HJ17.out; have := HJ24.out; omega⟩, ⟨by (with_reducible repeat (first | apply Kd.R_alloc | apply Kd.R_drewN | apply Kd.R_drew)); exact Kd.R_mono HO278.out (fun _ hk => hk.1)⟩, ⟨by (with_reducible repeat (first | refine blk_drewN ?_ _ | refine blk_drew ?_ | refine blk_alloc ?_ _)); exact BK247.out⟩, ⟨by repeat (first | (with_reducible first | exact HB.out | apply bA_ | apply bN_ | apply bD_ | refine bS_ ?_ GE247.out | refine bS_ ?_ GE262.out) | exact HB.out)⟩⟩
                            · rw [if_neg c73] at H
                              exact absurd H (by simp)
                        · rw [if_neg c31] at H
                          exact absurd H (by simp)
                      · rw [if_neg c30] at H
                        exact absurd H (by simp)
            · rw [if_neg c17] at H
              have c17b0 : decide (x8_2 < (l0.length : Int)) = false := decide_eq_false c17
              clear c17
              by_cases c81 : x7_2 = true
              · subst c81
                have H1 : (if (x6_2.length : Int) > 30 then ((spec_l7Copy.f l0).bind fun t279 => (some (t279, false))) else (some (x6_2, true))) = some (r1, r2) := by rw [if_pos rfl] at H; exact H
                clear H
                have H := H1
                clear H1
                by_cases c82 : (x6_2.length : Int) > 30
                · rw [if_pos c82] at H
                  have c82b0 : decide (30 < (x6_2.length : Int)) = true := decide_eq_true c82
                  have c82b1 : decide (30 < x6_2.length) = true := decide_eq_true (by omega)
                  clear c82
                  replace H := Option.bind_eq_some_iff.mp H
                  obtain ⟨t279, A830, H⟩ := H
                  replace H : (some (t279, false)) = some (r1, r2) := H
                  have A83 := Aside0.mk A830
                  clear A830
                  simp only [Option.some.injEq, Prod.mk.injEq] at H
                  obtain ⟨rfl, rfl⟩ := H
                  obtain ⟨Ao84, co84, eo84⟩ := Kd.R_slice HO_6.out
                  subst eo84
                  go_wp2_with (first | ((with_reducible refine gate_callee (f := 138) rfl ?_); refine goesL_ (some 82) rfl rfl Try.func138 z126_14 rfl #[.slice A0 l0.length c0] rfl z126_6 ?_; (with_reducible refine (spec_l7Copy.calls _ _ l0 t279 _ ?side1 ?side2 A83.out).mono ?_); (case side1 => repeat (first | exact (Kd.C_below HR0.out HB.out) | (with_reducible refine Kd.C_alloc ?_ _) | (with_reducible refine Kd.C_drewN ?_ _) | (with_reducible refine Kd.C_drew ?_))); (case side2 => exact HC0.out); rintro e w85 ⟨v280, rfl, ho0, hb⟩; refine ⟨_, rfl, ?_⟩; have n0_ := Aside0.mk (Kd.R_elder' (pR126_ HO_6.out) (Kd.R_base ho0) hb); have n1_ := Aside0.mk (Kd.R_lower (Kd.R_newB (Kd.R_new' ho0 (Kd.R_lt (pR126_ HO_6.out))) (g := gb247) (o := .cells #[.int .i64 a1_0, .int .i64 a1_1, .int .i64 a1_2, .int .i64 a1_3, .int .i64 a1_4, .int .i64 a1_5] 75 (0, 0)) (pB126_ BK247.out)) (below_size z126_3)); have n2_ := Aside0.mk (blk_below (g := gb247) (o := .cells #[.int .i64 a1_0, .int .i64 a1_1, .int .i64 a1_2, .int .i64 a1_3, .int .i64 a1_4, .int .i64 a1_5] 75 (0, 0)) (pB126_ BK247.out) hb); have n3_ := Aside0.mk (below_step z126_3 hb); clear HO_6; clear BK247; clear HB; have HO_6 := n0_; have HO281 := n1_; have BK247 := n2_; have HB := n3_; clear n0_ n1_ n2_ n3_; (try clear hb); (try clear hb2); (try clear hk); (try clear hi); (try clear ho0)))
                  go_ret2
                  exact ⟨_, by first | rfl | (simp [errW_none, errW_some] <;> rfl) | (simp [*, errW_none, errW_some] <;> rfl), by (with_reducible repeat (first | apply Kd.R_alloc | apply Kd.R_drewN | apply Kd.R_drew)); exact Kd.R_mono HO281.out (fun _ hk => trivial), by repeat (first | (with_reducible first | exact HB.out | apply bA_ | apply bN_ | apply bD_ | refine bS_ ?_ GE247.out) | exact HB.out)⟩
                · rw [if_neg c82] at H
                  have c82b0 : decide (30 < (x6_2.length : Int)) = false := decide_eq_false c82
                  have c82b1 : decide (30 < x6_2.length) = false := decide_eq_false (by omega)
                  clear c82
                  simp only [Option.some.injEq, Prod.mk.injEq] at H
                  obtain ⟨rfl, rfl⟩ := H
                  obtain ⟨Ao86, co86, eo86⟩ := Kd.R_slice HO_6.out
                  subst eo86
                  go_wp2
                  go_ret2
                  exact ⟨_, by first | rfl | (simp [errW_none, errW_some] <;> rfl) | (simp [*, errW_none, errW_some] <;> rfl), by (with_reducible repeat (first | apply Kd.R_alloc | apply Kd.R_drewN | apply Kd.R_drew)); exact Kd.R_mono HO_6.out (fun _ hk => trivial), by repeat (first | (with_reducible first | exact HB.out | apply bA_ | apply bN_ | apply bD_ | refine bS_ ?_ GE247.out) | exact HB.out)⟩
              · replace c81 := Bool.eq_false_iff.mpr c81
                subst c81
                have H1 : (if x6_2.length < 2932031007402 then ((some (x6_2 ++ [(⟨a1_0, a1_1, a1_2, a1_3, a1_4, a1_5⟩ : S75)] : List (S75))).bind fun y282 => (if (y282.length : Int) > 30 then ((spec_l7Copy.f l0).bind fun t285 => (some (t285, false))) else (some (y282, true)))) else (none)) = some (r1, r2) := by rw [if_neg (show ¬ (false = true) by decide)] at H; exact H
                clear H
                have H := H1
                clear H1
                by_cases c87 : x6_2.length < 2932031007402
                · rw [if_pos c87] at H
                  have LMc87 := Aside0.mk c87
                  clear c87
                  obtain ⟨y282, hy282⟩ : ∃ y_ : List (S75), y_ = (x6_2 ++ [(⟨a1_0, a1_1, a1_2, a1_3, a1_4, a1_5⟩ : S75)]) := ⟨_, rfl⟩
                  replace H : (if (y282.length : Int) > 30 then ((spec_l7Copy.f l0).bind fun t285 => (some (t285, false))) else (some (y282, true))) = some (r1, r2) := by first | (rw [hy282]; with_reducible exact H) | (have H2_ := (Option.bind_some _ _).symm.trans H; rw [hy282]; with_reducible exact H2_) | (have H2_ := (Option.bind_some _ _).symm.trans H; with_reducible exact H2_) | with_reducible exact H | (rw [hy282]; exact H) | exact H
                  have Ny282 := Aside0.mk hy282
                  clear hy282
                  by_cases c88 : (y282.length : Int) > 30
                  · rw [if_pos c88] at H
                    have c88b0 : decide (30 < (y282.length : Int)) = true := decide_eq_true c88
                    have c88b1 : decide (30 < y282.length) = true := decide_eq_true (by omega)
                    clear c88
                    replace H := Option.bind_eq_some_iff.mp H
                    obtain ⟨t285, A890, H⟩ := H
                    replace H : (some (t285, false)) = some (r1, r2) := H
                    have A89 := Aside0.mk A890
                    clear A890
                    simp only [Option.some.injEq, Prod.mk.injEq] at H
                    obtain ⟨rfl, rfl⟩ := H
                    have hcz90_0 : wr.cell? ⟨gb247, 0, none⟩ = some (.int .i64 a1_0) := (bC_ BK247.out 0).trans rfl
                    have hcz90_1 : wr.cell? ⟨gb247, 1, none⟩ = some (.int .i64 a1_1) := (bC_ BK247.out 1).trans rfl
                    have hcz90_2 : wr.cell? ⟨gb247, 2, none⟩ = some (.int .i64 a1_2) := (bC_ BK247.out 2).trans rfl
                    have hcz90_3 : wr.cell? ⟨gb247, 3, none⟩ = some (.int .i64 a1_3) := (bC_ BK247.out 3).trans rfl
                    have hcz90_4 : wr.cell? ⟨gb247, 4, none⟩ = some (.int .i64 a1_4) := (bC_ BK247.out 4).trans rfl
                    have hcz90_5 : wr.cell? ⟨gb247, 5, none⟩ = some (.int .i64 a1_5) := (bC_ BK247.out 5).trans rfl
                    have hfz90_0 := bF_ BK247.out 0
                    have hfz90_1 := bF_ BK247.out 1
                    have hfz90_2 := bF_ BK247.out 2
                    have hfz90_3 := bF_ BK247.out 3
                    have hfz90_4 := bF_ BK247.out 4
                    have hfz90_5 := bF_ BK247.out 5
                    go_wp2_with (first | ((with_reducible refine gate_builtin (b := .append) (xs := #[.tmp 74, .tmp 76]) rfl ?_); at_builtin; refine Kd.R_append k75 (w0 := w) w.heap.size rfl (.tmp 74) (.tmp 76) 30 75 (.agg #[(.int .i64 0), (.int .i64 0), (.int .i64 0), (.int .i64 0), (.int .i64 0), (.int .i64 0)]) 48 rfl Try.underlying30 info75 rfl (by decide) (by omega) u6 x6_2 (⟨a1_0, a1_1, a1_2, a1_3, a1_4, a1_5⟩ : S75) [.int .i64 a1_0, .int .i64 a1_1, .int .i64 a1_2, .int .i64 a1_3, .int .i64 a1_4, .int .i64 a1_5] (fun k_ => k_ ≠ gb247) (fun _ => False) rfl rfl ?aP (fun _ hk => hk.elim) ?aF ?aO ?aB ?aS ?aL ?_; (case aP => exact k75_mkM _ _ _ (⟨a1_0, a1_1, a1_2, a1_3, a1_4, a1_5⟩ : S75)); (case aB => exact z126_3); (case aF => exact (fun k_ hk => Kd.freshB (g := gb247) (o := .cells #[.int .i64 a1_0, .int .i64 a1_1, .int .i64 a1_2, .int .i64 a1_3, .int .i64 a1_4, .int .i64 a1_5] 75 (0, 0)) (pB126_ BK247.out) k_ hk)); (case aO => exact (pR126_ HO_6.out)); (case aS => exact (below_size z126_3)); (case aL => have := LMc87.out; omega); intro v283 w91 ho hb hg hat; rw [← Ny282.out] at ho; have n0_ := Aside0.mk (blk_grown (g := gb247) (o := .cells #[.int .i64 a1_0, .int .i64 a1_1, .int .i64 a1_2, .int .i64 a1_3, .int .i64 a1_4, .int .i64 a1_5] 75 (0, 0)) (pB126_ BK247.out) hg (Kd.R_away HO_6.out (fun _ hk => hk))); have n1_ := Aside0.mk (hb); have n2_ := Aside0.mk (ho); clear BK247; clear HB; clear HO_6; have BK247 := n0_; have HB := n1_; have HO284 := n2_; clear n0_ n1_ n2_; clear ho hb hg hat; obtain ⟨Ao92, co92, eo92⟩ := Kd.R_slice HO284.out; subst eo92) | ((with_reducible refine gate_callee (f := 138) rfl ?_); refine goesL_ (some 82) rfl rfl Try.func138 z126_14 rfl #[.slice A0 l0.length c0] rfl z126_6 ?_; (with_reducible refine (spec_l7Copy.calls _ _ l0 t285 _ ?side1 ?side2 A89.out).mono ?_); (case side1 => repeat (first | exact (Kd.C_below HR0.out HB.out) | (with_reducible refine Kd.C_alloc ?_ _) | (with_reducible refine Kd.C_drewN ?_ _) | (with_reducible refine Kd.C_drew ?_))); (case side2 => exact HC0.out); rintro e w93 ⟨v286, rfl, ho0, hb⟩; refine ⟨_, rfl, ?_⟩; have n0_ := Aside0.mk (Kd.R_elder' (pR126_ HO284.out) (Kd.R_base ho0) hb); have n1_ := Aside0.mk (Kd.R_lower (Kd.R_newB (Kd.R_new' ho0 (Kd.R_lt (pR126_ HO284.out))) (g := gb247) (o := .cells #[.int .i64 a1_0, .int .i64 a1_1, .int .i64 a1_2, .int .i64 a1_3, .int .i64 a1_4, .int .i64 a1_5] 75 (0, 0)) (pB126_ BK247.out)) (below_size z126_3)); have n2_ := Aside0.mk (blk_below (g := gb247) (o := .cells #[.int .i64 a1_0, .int .i64 a1_1, .int .i64 a1_2, .int .i64 a1_3, .int .i64 a1_4, .int .i64 a1_5] 75 (0, 0)) (pB126_ BK247.out) hb); have n3_ := Aside0.mk (below_step z126_3 hb); clear HO284; clear BK247; clear HB; have HO284 := n0_; have HO287 := n1_; have BK247 := n2_; have HB := n3_; clear n0_ n1_ n2_ n3_; (try clear hb); (try clear hb2); (try clear hk); (try clear hi); (try clear ho0)))
                    go_ret2
                    exact ⟨_, by first | rfl | (simp [errW_none, errW_some] <;> rfl) | (simp [*, errW_none, errW_some] <;> rfl), by (with_reducible repeat (first | apply Kd.R_alloc | apply Kd.R_drewN | apply Kd.R_drew)); exact Kd.R_mono HO287.out (fun _ hk => trivial), by repeat (first | (with_reducible first | exact HB.out | apply bA_ | apply bN_ | apply bD_ | refine bS_ ?_ GE247.out) | exact HB.out)⟩
                  · rw [if_neg c88] at H
                    have c88b0 : decide (30 < (y282.length : Int)) = false := decide_eq_false c88
                    have c88b1 : decide (30 < y282.length) = false := decide_eq_false (by omega)
                    clear c88
                    simp only [Option.some.injEq, Prod.mk.injEq] at H
                    obtain ⟨rfl, rfl⟩ := H
                    have hcz94_0 : wr.cell? ⟨gb247, 0, none⟩ = some (.int .i64 a1_0) := (bC_ BK247.out 0).trans rfl
                    have hcz94_1 : wr.cell? ⟨gb247, 1, none⟩ = some (.int .i64 a1_1) := (bC_ BK247.out 1).trans rfl
                    have hcz94_2 : wr.cell? ⟨gb247, 2, none⟩ = some (.int .i64 a1_2) := (bC_ BK247.out 2).trans rfl
                    have hcz94_3 : wr.cell? ⟨gb247, 3, none⟩ = some (.int .i64 a1_3) := (bC_ BK247.out 3).trans rfl
                    have hcz94_4 : wr.cell? ⟨gb247, 4, none⟩ = some (.int .i64 a1_4) := (bC_ BK247.out 4).trans rfl
                    have hcz94_5 : wr.cell? ⟨gb247, 5, none⟩ = some (.int .i64 a1_5) := (bC_ BK247.out 5).trans rfl
                    have hfz94_0 := bF_ BK247.out 0
                    have hfz94_1 := bF_ BK247.out 1
                    have hfz94_2 := bF_ BK247.out 2
                    have hfz94_3 := bF_ BK247.out 3
                    have hfz94_4 := bF_ BK247.out 4
                    have hfz94_5 := bF_ BK247.out 5
                    go_wp2_with (first | ((with_reducible refine gate_builtin (b := .append) (xs := #[.tmp 74, .tmp 76]) rfl ?_); at_builtin; refine Kd.R_append k75 (w0 := w) w.heap.size rfl (.tmp 74) (.tmp 76) 30 75 (.agg #[(.int .i64 0), (.int .i64 0), (.int .i64 0), (.int .i64 0), (.int .i64 0), (.int .i64 0)]) 48 rfl Try.underlying30 info75 rfl (by decide) (by omega) u6 x6_2 (⟨a1_0, a1_1, a1_2, a1_3, a1_4, a1_5⟩ : S75) [.int .i64 a1_0, .int .i64 a1_1, .int .i64 a1_2, .int .i64 a1_3, .int .i64 a1_4, .int .i64 a1_5] (fun k_ => k_ ≠ gb247) (fun _ => False) rfl rfl ?aP (fun _ hk => hk.elim) ?aF ?aO ?aB ?aS ?aL ?_; (case aP => exact k75_mkM _ _ _ (⟨a1_0, a1_1, a1_2, a1_3, a1_4, a1_5⟩ : S75)); (case aB => exact z126_3); (case aF => exact (fun k_ hk => Kd.freshB (g := gb247) (o := .cells #[.int .i64 a1_0, .int .i64 a1_1, .int .i64 a1_2, .int .i64 a1_3, .int .i64 a1_4, .int .i64 a1_5] 75 (0, 0)) (pB126_ BK247.out) k_ hk)); (case aO => exact (pR126_ HO_6.out)); (case aS => exact (below_size z126_3)); (case aL => have := LMc87.out; omega); intro v283 w95 ho hb hg hat; rw [← Ny282.out] at ho; have n0_ := Aside0.mk (blk_grown (g := gb247) (o := .cells #[.int .i64 a1_0, .int .i64 a1_1, .int .i64 a1_2, .int .i64 a1_3, .int .i64 a1_4, .int .i64 a1_5] 75 (0, 0)) (pB126_ BK247.out) hg (Kd.R_away HO_6.out (fun _ hk => hk))); have n1_ := Aside0.mk (hb); have n2_ := Aside0.mk (ho); clear BK247; clear HB; clear HO_6; have BK247 := n0_; have HB := n1_; have HO284 := n2_; clear n0_ n1_ n2_; clear ho hb hg hat; obtain ⟨Ao96, co96, eo96⟩ := Kd.R_slice HO284.out; subst eo96))
                    go_ret2
                    exact ⟨_, by first | rfl | (simp [errW_none, errW_some] <;> rfl) | (simp [*, errW_none, errW_some] <;> rfl), by (with_reducible repeat (first | apply Kd.R_alloc | apply Kd.R_drewN | apply Kd.R_drew)); exact Kd.R_mono HO284.out (fun _ hk => trivial), by repeat (first | (with_reducible first | exact HB.out | apply bA_ | apply bN_ | apply bD_ | refine bS_ ?_ GE247.out) | exact HB.out)⟩
                · rw [if_neg c87] at H
                  exact absurd H (by simp)

end Go.Proofs.Ytgmgoabohppkeaa.XFnRoles
