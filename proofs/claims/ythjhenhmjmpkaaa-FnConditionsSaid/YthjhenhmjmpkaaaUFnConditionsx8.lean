/- Written by this session's own program (wip/xprint, which runs over the kit's print): what the functions that the law reaches come to, each proved; and the law's row. Conditions: none. -/
import Derived.Test.YthjhenhmjmpkaaaUFnConditionsx0
import Derived.Test.YthjhenhmjmpkaaaUFnConditionsx1
import Derived.Test.YthjhenhmjmpkaaaUFnConditionsx2
import Derived.Test.YthjhenhmjmpkaaaUFnConditionsx5
import Derived.Test.YthjhenhmjmpkaaaUFnConditionsx6
import Derived.Test.YthjhenhmjmpkaaaUFnConditionsx7
namespace Go.Proofs.Ythjhenhmjmpkaaa.XFnConditions
open Go.RowKit Go.Proofs.YthjhenhmjmpkaaaW.PrintWords Go.Proofs.YthjhenhmjmpkaaaW.PrintLast Go.Proofs.YthjhenhmjmpkaaaW.PrintMore
attribute [local go_sem] max2_int min2_int max_two min_two max_three min_three max_four min_four   -- for this text's walks alone
set_option linter.unusedVariables false
set_option linter.unusedSimpArgs false

/-! ### laws_FnConditions: function 4 -/
mutual
def laws_FnConditions.j0 : Nat → Int → Bool → Int → Int → Int → List (S29) → Int → Int → Int → List (S29) → Option (Bool)
  | 0, _, _, _, _, _, _, _, _, _, _ => none
  | k + 1, x5, x44, x476000, x476001, x476002, x476003, x477000, x477001, x477002, x477003 => if x44 = true then (some false) else ((impl_CondAnd.f k x476000 x476001 x476002 x476003 x477000 x477001 x477002 x477003).bind fun bt501 => ((impl_IsCond.f k bt501.1 bt501.2.1 bt501.2.2.1 bt501.2.2.2).bind fun t507 => ((impl_IsCond.f k x476000 x476001 x476002 x476003).bind fun t508 => (if t508 = true then ((impl_IsCond.f k x477000 x477001 x477002 x477003).bind fun t509 => (if t509 = true then (laws_FnConditions.j1 k (t507 != (decide (x5 ≤ 15))) x476000 x476001 x476002 x476003) else (laws_FnConditions.j1 k (t507 != false) x476000 x476001 x476002 x476003))) else (laws_FnConditions.j1 k (t507 != false) x476000 x476001 x476002 x476003)))))
def laws_FnConditions.j1 : Nat → Bool → Int → Int → Int → List (S29) → Option (Bool)
  | 0, _, _, _, _, _ => none
  | k + 1, x59, x476000, x476001, x476002, x476003 => if x59 = true then (some false) else ((impl_LeavesOf.f k x476000 x476001 x476002 x476003).bind fun t510 => (laws_FnConditions.l0 k t510 0 x476000 x476001 x476002 x476003))
def laws_FnConditions.l0 : Nat → List (S29) → Int → Int → Int → Int → List (S29) → Option (Bool)
  | 0, _, _, _, _, _, _ => none
  | k + 1, x6, x7, x476000, x476001, x476002, x476003 => if x7 < (x6.length : Int) then (laws_FnConditions.l1 k x6 x7 0 x476000 x476001 x476002 x476003) else ((impl_SizeOf.f k x476000 x476001 x476002 x476003).bind fun t513 => (if (x6.length : Int) ≤ t513 then ((impl_EqualConds.f k x476000 x476001 x476002 x476003 x476000 x476001 x476002 x476003).bind fun t514 => (some t514)) else (some false)))
def laws_FnConditions.l1 : Nat → List (S29) → Int → Int → Int → Int → Int → List (S29) → Option (Bool)
  | 0, _, _, _, _, _, _, _ => none
  | k + 1, x6, x7, x8, x476000, x476001, x476002, x476003 => if x8 < x7 then (if 0 ≤ x7 then (if x7 < (x6.length : Int) then (if 0 ≤ x8 then (if x8 < (x6.length : Int) then ((impl_EqualConds.f k ((rd_T29 x6 x7).f0) ((rd_T29 x6 x7).f1) ((rd_T29 x6 x7).f2) ((rd_T29 x6 x7).f3) ((rd_T29 x6 x8).f0) ((rd_T29 x6 x8).f1) ((rd_T29 x6 x8).f2) ((rd_T29 x6 x8).f3)).bind fun t517 => (if t517 = true then (some false) else (laws_FnConditions.l1 k x6 x7 (wrap64 (x8 + 1)) x476000 x476001 x476002 x476003))) else (none)) else (none)) else (none)) else (none)) else (if 0 ≤ x7 then (if x7 < (x6.length : Int) then (if (((rd_T29 x6 x7).f3).length : Int) = 0 then ((impl_ArityOf.f k ((rd_T29 x6 x7).f0)).bind fun t520 => (if t520 = 0 then (laws_FnConditions.l0 k x6 (wrap64 (x7 + 1)) x476000 x476001 x476002 x476003) else (some false))) else (some false)) else (none)) else (none))
end
def laws_FnConditions.f (k : Nat) (l0 : List Int) : Option (Bool) := (laws_big.f l0).bind fun t462 => (if t462 = true then (some true) else ((spec_DrawCondAnd.f k l0).bind fun bt463 => ((impl_SizeOf.f k bt463.1 bt463.2.1 bt463.2.2.1 bt463.2.2.2.1).bind fun t477 => ((impl_SizeOf.f k bt463.2.2.2.2.1 bt463.2.2.2.2.2.1 bt463.2.2.2.2.2.2.1 bt463.2.2.2.2.2.2.2).bind fun t478 => ((impl_CondAnd.f k bt463.1 bt463.2.1 bt463.2.2.1 bt463.2.2.2.1 bt463.2.2.2.2.1 bt463.2.2.2.2.2.1 bt463.2.2.2.2.2.2.1 bt463.2.2.2.2.2.2.2).bind fun bt479 => ((impl_SizeOf.f k bt479.1 bt479.2.1 bt479.2.2.1 bt479.2.2.2).bind fun t485 => (if t485 = (wrap64 ((wrap64 (t477 + t478)) + 1)) then ((impl_CondOr.f k bt463.1 bt463.2.1 bt463.2.2.1 bt463.2.2.2.1 bt463.2.2.2.2.1 bt463.2.2.2.2.2.1 bt463.2.2.2.2.2.2.1 bt463.2.2.2.2.2.2.2).bind fun bt486 => ((impl_SizeOf.f k bt486.1 bt486.2.1 bt486.2.2.1 bt486.2.2.2).bind fun t492 => (if t492 = (wrap64 ((wrap64 (t477 + t478)) + 1)) then ((impl_CondNot.f k bt463.1 bt463.2.1 bt463.2.2.1 bt463.2.2.2.1).bind fun bt493 => ((impl_SizeOf.f k bt493.1 bt493.2.1 bt493.2.2.1 bt493.2.2.2).bind fun t499 => ((impl_SizeOf.f k bt463.1 bt463.2.1 bt463.2.2.1 bt463.2.2.2.1).bind fun t500 => (laws_FnConditions.j0 k (wrap64 ((wrap64 (t477 + t478)) + 1)) (t499 != (wrap64 (t500 + 1))) bt463.1 bt463.2.1 bt463.2.2.1 bt463.2.2.2.1 bt463.2.2.2.2.1 bt463.2.2.2.2.2.1 bt463.2.2.2.2.2.2.1 bt463.2.2.2.2.2.2.2)))) else (laws_FnConditions.j0 k (wrap64 ((wrap64 (t477 + t478)) + 1)) true bt463.1 bt463.2.1 bt463.2.2.1 bt463.2.2.2.1 bt463.2.2.2.2.1 bt463.2.2.2.2.2.1 bt463.2.2.2.2.2.2.1 bt463.2.2.2.2.2.2.2)))) else (laws_FnConditions.j0 k (wrap64 ((wrap64 (t477 + t478)) + 1)) true bt463.1 bt463.2.1 bt463.2.2.1 bt463.2.2.2.1 bt463.2.2.2.2.1 bt463.2.2.2.2.2.1 bt463.2.2.2.2.2.2.1 bt463.2.2.2.2.2.2.2))))))))
def laws_FnConditions.T5 : Bool × List (List Nat × List Nat) := (true, [([], []), ([], []), ([0, 1], [0, 1]), ([2, 2], [2]), ([], []), ([3, 4], [3, 4]), ([5, 3], [5]), ([6], [6]), ([6], [6]), ([7, 8, 6, 6], [6, 7, 8]), ([9, 9, 6], [6, 9]), ([6], [6]), ([10, 11, 6], [6, 10, 11]), ([6, 12], [6, 12]), ([13, 10], [13]), ([14], [14]), ([15, 14, 14], [14, 15]), ([16, 16, 14], [14, 16]), ([14], [14]), ([18, 17, 14], [14, 18]), ([19, 14], [14, 19]), ([17, 20, 14], [14, 17, 20]), ([14, 21], [14, 21])])
def laws_FnConditions.B5 : List Nat := [0, 0, 3, 7, 0, 31, 63, 127, 127, 511, 1023, 127, 4095, 8191, 16383, 32767, 65535, 131071, 32767, 524287, 1048575, 2097151, 4194303]
theorem laws_FnConditions.tab5 : rtab .any (opsOf Try.f4 5) = laws_FnConditions.T5 := by kernel_rfl
theorem laws_FnConditions.bits5 : waitsOk laws_FnConditions.T5.2 laws_FnConditions.B5 = true := by kernel_rfl
def laws_FnConditions.T7 : Bool × List (List Nat × List Nat) := (true, [([], []), ([], []), ([0, 1], [0, 1]), ([2, 2], [2]), ([], []), ([4, 3], [4]), ([5, 5], [5]), ([6], [6]), ([7, 6, 6], [6, 7]), ([6, 8], [6, 8]), ([9, 8], [9]), ([10], [10]), ([11, 10], [10, 11]), ([10, 12], [10, 12]), ([3, 13], [3, 13])])
def laws_FnConditions.B7 : List Nat := [0, 0, 3, 7, 0, 31, 63, 127, 255, 511, 1023, 2047, 4095, 8191, 16383]
theorem laws_FnConditions.tab7 : rtab .any (opsOf Try.f4 7) = laws_FnConditions.T7 := by kernel_rfl
theorem laws_FnConditions.bits7 : waitsOk laws_FnConditions.T7.2 laws_FnConditions.B7 = true := by kernel_rfl
def laws_FnConditions.T16 : Bool × List (List Nat × List Nat) := (true, [([], []), ([], []), ([0, 1], [0, 1]), ([2], [2]), ([], []), ([], []), ([4, 5], [4, 5]), ([6], [6]), ([3, 7], [3, 7])])
def laws_FnConditions.B16 : List Nat := [0, 0, 3, 7, 0, 0, 48, 112, 255]
theorem laws_FnConditions.tab16 : rtab .any (opsOf Try.f4 16) = laws_FnConditions.T16 := by kernel_rfl
theorem laws_FnConditions.bits16 : waitsOk laws_FnConditions.T16.2 laws_FnConditions.B16 = true := by kernel_rfl
theorem pB4_ {P Q : Prop} (h : P) (g : P → Q := by intro h_; (with_reducible repeat (first | refine blk_drewN ?_ _ | refine blk_drew ?_ | refine blk_alloc ?_ _)); exact h_) : Q := g h
theorem z4_0 {Q : Prop} (g : Q := by repeat (first | (with_reducible first | exact HB.out | apply bA_ | apply bN_ | apply bD_ | refine bS_ ?_ GE475.out | refine bS_ ?_ GE476.out) | exact HB.out)) : Q := g
theorem z4_1 {Q : Prop} (g : Q := by (try simp only [List.map_toArray, List.map_cons, List.map_nil]); first | done | rfl | (simp only [List.length_drop, List.length_take]; rfl)) : Q := g
theorem z4_2 {Q : Prop} (g : Q := by (with_reducible repeat (first | apply Kd.S_alloc | apply Kd.S_drewN | apply Kd.S_drew)); exact HO474.out) : Q := g
theorem z4_3 {Q : Prop} (g : Q := by (with_reducible repeat (first | apply Kd.S_alloc | apply Kd.S_drewN | apply Kd.S_drew)); exact HO468.out) : Q := g
theorem z4_4 {Q : Prop} (g : Q := by (with_reducible repeat (first | apply Kd.S_alloc | apply Kd.S_drewN | apply Kd.S_drew)); exact HO_477003.out) : Q := g
theorem z4_5 {Q : Prop} (g : Q := by (with_reducible repeat (first | apply Kd.S_alloc | apply Kd.S_drewN | apply Kd.S_drew)); exact HO_476003.out) : Q := g
theorem z4_6 {Q : Prop} (g : Q := by (with_reducible repeat (first | apply Kd.S_alloc | apply Kd.S_drewN | apply Kd.S_drew)); exact HO484.out) : Q := g
theorem z4_7 {Q : Prop} (g : Q := by kernel_rfl) : Q := g
theorem z4_8 {Q : Prop} (g : Q := by (with_reducible repeat (first | apply Kd.S_alloc | apply Kd.S_drewN | apply Kd.S_drew)); exact HO506.out) : Q := g
theorem z4_9 {Q : Prop} (g : Q := by repeat (first | (with_reducible first | exact HB.out | apply bA_ | apply bN_ | apply bD_) | exact HB.out)) : Q := g
theorem z4_10 {Q : Prop} (g : Q := by (with_reducible repeat (first | apply Kd.S_alloc | apply Kd.S_drewN | apply Kd.S_drew)); exact HO491.out) : Q := g
theorem z4_11 {Q : Prop} (g : Q := by first | (with_reducible assumption) | assumption) : Q := g
theorem z4_12 {Q : Prop} (g : Q := by first | rfl | (simp; done) | (simp [*]; done)) : Q := g
theorem z4_13 {Q : Prop} (g : Q := by repeat (first | (with_reducible first | exact HB.out | apply bA_ | apply bN_ | apply bD_ | refine bS_ ?_ GE475.out) | exact HB.out)) : Q := g
set_option maxHeartbeats 8000000 in
set_option maxRecDepth 100000 in
theorem laws_FnConditions.calls (k : Nat) (A0 : Option Addr) (c0 : Nat) (l0 : List Int) (r : Bool) (w : World) (hr0 : Kd.C (Kd.int .u8) w A0 l0.length l0) (hc0 : l0.length ≤ c0) (h : laws_FnConditions.f k l0 = some r) (hr_ : Aside0 (r = true)) :
    Calls Try.prog 4 #[.slice A0 l0.length c0] w fun e w' => e = .returned (.bool r) ∧ Below w.heap.size w w' := by
  have hu29 := Try.underlying29
  have HR0 := Aside0.mk hr0
  have HC0 := Aside0.mk hc0
  clear hr0 hc0
  have HB := Aside0.mk (Below.refl w.heap.size w)
  have H : ((laws_big.f l0).bind fun t462 => (if t462 = true then (some true) else ((spec_DrawCondAnd.f k l0).bind fun bt463 => ((impl_SizeOf.f k bt463.1 bt463.2.1 bt463.2.2.1 bt463.2.2.2.1).bind fun t477 => ((impl_SizeOf.f k bt463.2.2.2.2.1 bt463.2.2.2.2.2.1 bt463.2.2.2.2.2.2.1 bt463.2.2.2.2.2.2.2).bind fun t478 => ((impl_CondAnd.f k bt463.1 bt463.2.1 bt463.2.2.1 bt463.2.2.2.1 bt463.2.2.2.2.1 bt463.2.2.2.2.2.1 bt463.2.2.2.2.2.2.1 bt463.2.2.2.2.2.2.2).bind fun bt479 => ((impl_SizeOf.f k bt479.1 bt479.2.1 bt479.2.2.1 bt479.2.2.2).bind fun t485 => (if t485 = (wrap64 ((wrap64 (t477 + t478)) + 1)) then ((impl_CondOr.f k bt463.1 bt463.2.1 bt463.2.2.1 bt463.2.2.2.1 bt463.2.2.2.2.1 bt463.2.2.2.2.2.1 bt463.2.2.2.2.2.2.1 bt463.2.2.2.2.2.2.2).bind fun bt486 => ((impl_SizeOf.f k bt486.1 bt486.2.1 bt486.2.2.1 bt486.2.2.2).bind fun t492 => (if t492 = (wrap64 ((wrap64 (t477 + t478)) + 1)) then ((impl_CondNot.f k bt463.1 bt463.2.1 bt463.2.2.1 bt463.2.2.2.1).bind fun bt493 => ((impl_SizeOf.f k bt493.1 bt493.2.1 bt493.2.2.1 bt493.2.2.2).bind fun t499 => ((impl_SizeOf.f k bt463.1 bt463.2.1 bt463.2.2.1 bt463.2.2.2.1).bind fun t500 => (laws_FnConditions.j0 k (wrap64 ((wrap64 (t477 + t478)) + 1)) (t499 != (wrap64 (t500 + 1))) bt463.1 bt463.2.1 bt463.2.2.1 bt463.2.2.2.1 bt463.2.2.2.2.1 bt463.2.2.2.2.2.1 bt463.2.2.2.2.2.2.1 bt463.2.2.2.2.2.2.2)))) else (laws_FnConditions.j0 k (wrap64 ((wrap64 (t477 + t478)) + 1)) true bt463.1 bt463.2.1 bt463.2.2.1 bt463.2.2.2.1 bt463.2.2.2.2.1 bt463.2.2.2.2.2.1 bt463.2.2.2.2.2.2.1 bt463.2.2.2.2.2.2.2)))) else (laws_FnConditions.j0 k (wrap64 ((wrap64 (t477 + t478)) + 1)) true bt463.1 bt463.2.1 bt463.2.2.1 bt463.2.2.2.1 bt463.2.2.2.2.1 bt463.2.2.2.2.2.1 bt463.2.2.2.2.2.2.1 bt463.2.2.2.2.2.2.2))))))))) = some r := h
  clear h
  replace H := Option.bind_eq_some_iff.mp H
  obtain ⟨t462, A20, H⟩ := H
  replace H : (if t462 = true then (some true) else ((spec_DrawCondAnd.f k l0).bind fun bt463 => ((impl_SizeOf.f k bt463.1 bt463.2.1 bt463.2.2.1 bt463.2.2.2.1).bind fun t477 => ((impl_SizeOf.f k bt463.2.2.2.2.1 bt463.2.2.2.2.2.1 bt463.2.2.2.2.2.2.1 bt463.2.2.2.2.2.2.2).bind fun t478 => ((impl_CondAnd.f k bt463.1 bt463.2.1 bt463.2.2.1 bt463.2.2.2.1 bt463.2.2.2.2.1 bt463.2.2.2.2.2.1 bt463.2.2.2.2.2.2.1 bt463.2.2.2.2.2.2.2).bind fun bt479 => ((impl_SizeOf.f k bt479.1 bt479.2.1 bt479.2.2.1 bt479.2.2.2).bind fun t485 => (if t485 = (wrap64 ((wrap64 (t477 + t478)) + 1)) then ((impl_CondOr.f k bt463.1 bt463.2.1 bt463.2.2.1 bt463.2.2.2.1 bt463.2.2.2.2.1 bt463.2.2.2.2.2.1 bt463.2.2.2.2.2.2.1 bt463.2.2.2.2.2.2.2).bind fun bt486 => ((impl_SizeOf.f k bt486.1 bt486.2.1 bt486.2.2.1 bt486.2.2.2).bind fun t492 => (if t492 = (wrap64 ((wrap64 (t477 + t478)) + 1)) then ((impl_CondNot.f k bt463.1 bt463.2.1 bt463.2.2.1 bt463.2.2.2.1).bind fun bt493 => ((impl_SizeOf.f k bt493.1 bt493.2.1 bt493.2.2.1 bt493.2.2.2).bind fun t499 => ((impl_SizeOf.f k bt463.1 bt463.2.1 bt463.2.2.1 bt463.2.2.2.1).bind fun t500 => (laws_FnConditions.j0 k (wrap64 ((wrap64 (t477 + t478)) + 1)) (t499 != (wrap64 (t500 + 1))) bt463.1 bt463.2.1 bt463.2.2.1 bt463.2.2.2.1 bt463.2.2.2.2.1 bt463.2.2.2.2.2.1 bt463.2.2.2.2.2.2.1 bt463.2.2.2.2.2.2.2)))) else (laws_FnConditions.j0 k (wrap64 ((wrap64 (t477 + t478)) + 1)) true bt463.1 bt463.2.1 bt463.2.2.1 bt463.2.2.2.1 bt463.2.2.2.2.1 bt463.2.2.2.2.2.1 bt463.2.2.2.2.2.2.1 bt463.2.2.2.2.2.2.2)))) else (laws_FnConditions.j0 k (wrap64 ((wrap64 (t477 + t478)) + 1)) true bt463.1 bt463.2.1 bt463.2.2.1 bt463.2.2.2.1 bt463.2.2.2.2.1 bt463.2.2.2.2.2.1 bt463.2.2.2.2.2.2.1 bt463.2.2.2.2.2.2.2)))))))) = some r := H
  have A2 := Aside0.mk A20
  clear A20
  by_cases c3 : t462 = true
  · subst c3
    have H1 : (some true) = some r := by rw [if_pos rfl] at H; exact H
    clear H
    have H := H1
    clear H1
    obtain rfl := Option.some.inj H
    go_enter Try.func4, Try.ntmps4
    go_wp2_with (first | ((with_reducible refine gate_callee (f := 14) rfl ?_); refine goesL_ (some 10) rfl rfl Try.func14 z4_7 rfl #[.slice A0 l0.length c0] rfl z4_1 ?_; (with_reducible refine (laws_big.calls _ _ l0 true _ ?side1 ?side2 A2.out).mono ?_); (case side1 => repeat (first | exact HR0.out | (with_reducible refine Kd.C_alloc ?_ _) | (with_reducible refine Kd.C_drewN ?_ _) | (with_reducible refine Kd.C_drew ?_))); (case side2 => exact HC0.out); rintro e w' ⟨rfl, ⟨nd, rfl⟩⟩; refine ⟨_, rfl, ?_⟩))
    go_ret
    exact ⟨by first | rfl | (simp [errW_none, errW_some] <;> rfl) | (simp [*, errW_none, errW_some] <;> rfl), by repeat (first | (with_reducible first | exact HB.out | apply bA_ | apply bN_ | apply bD_) | exact HB.out)⟩
  · replace c3 := Bool.eq_false_iff.mpr c3
    subst c3
    have H1 : ((spec_DrawCondAnd.f k l0).bind fun bt463 => ((impl_SizeOf.f k bt463.1 bt463.2.1 bt463.2.2.1 bt463.2.2.2.1).bind fun t477 => ((impl_SizeOf.f k bt463.2.2.2.2.1 bt463.2.2.2.2.2.1 bt463.2.2.2.2.2.2.1 bt463.2.2.2.2.2.2.2).bind fun t478 => ((impl_CondAnd.f k bt463.1 bt463.2.1 bt463.2.2.1 bt463.2.2.2.1 bt463.2.2.2.2.1 bt463.2.2.2.2.2.1 bt463.2.2.2.2.2.2.1 bt463.2.2.2.2.2.2.2).bind fun bt479 => ((impl_SizeOf.f k bt479.1 bt479.2.1 bt479.2.2.1 bt479.2.2.2).bind fun t485 => (if t485 = (wrap64 ((wrap64 (t477 + t478)) + 1)) then ((impl_CondOr.f k bt463.1 bt463.2.1 bt463.2.2.1 bt463.2.2.2.1 bt463.2.2.2.2.1 bt463.2.2.2.2.2.1 bt463.2.2.2.2.2.2.1 bt463.2.2.2.2.2.2.2).bind fun bt486 => ((impl_SizeOf.f k bt486.1 bt486.2.1 bt486.2.2.1 bt486.2.2.2).bind fun t492 => (if t492 = (wrap64 ((wrap64 (t477 + t478)) + 1)) then ((impl_CondNot.f k bt463.1 bt463.2.1 bt463.2.2.1 bt463.2.2.2.1).bind fun bt493 => ((impl_SizeOf.f k bt493.1 bt493.2.1 bt493.2.2.1 bt493.2.2.2).bind fun t499 => ((impl_SizeOf.f k bt463.1 bt463.2.1 bt463.2.2.1 bt463.2.2.2.1).bind fun t500 => (laws_FnConditions.j0 k (wrap64 ((wrap64 (t477 + t478)) + 1)) (t499 != (wrap64 (t500 + 1))) bt463.1 bt463.2.1 bt463.2.2.1 bt463.2.2.2.1 bt463.2.2.2.2.1 bt463.2.2.2.2.2.1 bt463.2.2.2.2.2.2.1 bt463.2.2.2.2.2.2.2)))) else (laws_FnConditions.j0 k (wrap64 ((wrap64 (t477 + t478)) + 1)) true bt463.1 bt463.2.1 bt463.2.2.1 bt463.2.2.2.1 bt463.2.2.2.2.1 bt463.2.2.2.2.2.1 bt463.2.2.2.2.2.2.1 bt463.2.2.2.2.2.2.2)))) else (laws_FnConditions.j0 k (wrap64 ((wrap64 (t477 + t478)) + 1)) true bt463.1 bt463.2.1 bt463.2.2.1 bt463.2.2.2.1 bt463.2.2.2.2.1 bt463.2.2.2.2.2.1 bt463.2.2.2.2.2.2.1 bt463.2.2.2.2.2.2.2))))))) = some r := by rw [if_neg (show ¬ (false = true) by decide)] at H; exact H
    clear H
    have H := H1
    clear H1
    replace H := Option.bind_eq_some_iff.mp H
    obtain ⟨⟨t463, t464, t465, t466, t469, t470, t471, t472⟩, A40, H⟩ := H
    replace H : ((impl_SizeOf.f k t463 t464 t465 t466).bind fun t477 => ((impl_SizeOf.f k t469 t470 t471 t472).bind fun t478 => ((impl_CondAnd.f k t463 t464 t465 t466 t469 t470 t471 t472).bind fun bt479 => ((impl_SizeOf.f k bt479.1 bt479.2.1 bt479.2.2.1 bt479.2.2.2).bind fun t485 => (if t485 = (wrap64 ((wrap64 (t477 + t478)) + 1)) then ((impl_CondOr.f k t463 t464 t465 t466 t469 t470 t471 t472).bind fun bt486 => ((impl_SizeOf.f k bt486.1 bt486.2.1 bt486.2.2.1 bt486.2.2.2).bind fun t492 => (if t492 = (wrap64 ((wrap64 (t477 + t478)) + 1)) then ((impl_CondNot.f k t463 t464 t465 t466).bind fun bt493 => ((impl_SizeOf.f k bt493.1 bt493.2.1 bt493.2.2.1 bt493.2.2.2).bind fun t499 => ((impl_SizeOf.f k t463 t464 t465 t466).bind fun t500 => (laws_FnConditions.j0 k (wrap64 ((wrap64 (t477 + t478)) + 1)) (t499 != (wrap64 (t500 + 1))) t463 t464 t465 t466 t469 t470 t471 t472)))) else (laws_FnConditions.j0 k (wrap64 ((wrap64 (t477 + t478)) + 1)) true t463 t464 t465 t466 t469 t470 t471 t472)))) else (laws_FnConditions.j0 k (wrap64 ((wrap64 (t477 + t478)) + 1)) true t463 t464 t465 t466 t469 t470 t471 t472)))))) = some r := H
    have A4 := Aside0.mk A40
    clear A40
    replace H := Option.bind_eq_some_iff.mp H
    obtain ⟨t477, A50, H⟩ := H
    replace H : ((impl_SizeOf.f k t469 t470 t471 t472).bind fun t478 => ((impl_CondAnd.f k t463 t464 t465 t466 t469 t470 t471 t472).bind fun bt479 => ((impl_SizeOf.f k bt479.1 bt479.2.1 bt479.2.2.1 bt479.2.2.2).bind fun t485 => (if t485 = (wrap64 ((wrap64 (t477 + t478)) + 1)) then ((impl_CondOr.f k t463 t464 t465 t466 t469 t470 t471 t472).bind fun bt486 => ((impl_SizeOf.f k bt486.1 bt486.2.1 bt486.2.2.1 bt486.2.2.2).bind fun t492 => (if t492 = (wrap64 ((wrap64 (t477 + t478)) + 1)) then ((impl_CondNot.f k t463 t464 t465 t466).bind fun bt493 => ((impl_SizeOf.f k bt493.1 bt493.2.1 bt493.2.2.1 bt493.2.2.2).bind fun t499 => ((impl_SizeOf.f k t463 t464 t465 t466).bind fun t500 => (laws_FnConditions.j0 k (wrap64 ((wrap64 (t477 + t478)) + 1)) (t499 != (wrap64 (t500 + 1))) t463 t464 t465 t466 t469 t470 t471 t472)))) else (laws_FnConditions.j0 k (wrap64 ((wrap64 (t477 + t478)) + 1)) true t463 t464 t465 t466 t469 t470 t471 t472)))) else (laws_FnConditions.j0 k (wrap64 ((wrap64 (t477 + t478)) + 1)) true t463 t464 t465 t466 t469 t470 t471 t472))))) = some r := H
    have A5 := Aside0.mk A50
    clear A50
    replace H := Option.bind_eq_some_iff.mp H
    obtain ⟨t478, A60, H⟩ := H
    replace H : ((impl_CondAnd.f k t463 t464 t465 t466 t469 t470 t471 t472).bind fun bt479 => ((impl_SizeOf.f k bt479.1 bt479.2.1 bt479.2.2.1 bt479.2.2.2).bind fun t485 => (if t485 = (wrap64 ((wrap64 (t477 + t478)) + 1)) then ((impl_CondOr.f k t463 t464 t465 t466 t469 t470 t471 t472).bind fun bt486 => ((impl_SizeOf.f k bt486.1 bt486.2.1 bt486.2.2.1 bt486.2.2.2).bind fun t492 => (if t492 = (wrap64 ((wrap64 (t477 + t478)) + 1)) then ((impl_CondNot.f k t463 t464 t465 t466).bind fun bt493 => ((impl_SizeOf.f k bt493.1 bt493.2.1 bt493.2.2.1 bt493.2.2.2).bind fun t499 => ((impl_SizeOf.f k t463 t464 t465 t466).bind fun t500 => (laws_FnConditions.j0 k (wrap64 ((wrap64 (t477 + t478)) + 1)) (t499 != (wrap64 (t500 + 1))) t463 t464 t465 t466 t469 t470 t471 t472)))) else (laws_FnConditions.j0 k (wrap64 ((wrap64 (t477 + t478)) + 1)) true t463 t464 t465 t466 t469 t470 t471 t472)))) else (laws_FnConditions.j0 k (wrap64 ((wrap64 (t477 + t478)) + 1)) true t463 t464 t465 t466 t469 t470 t471 t472)))) = some r := H
    have A6 := Aside0.mk A60
    clear A60
    have HC7 := Aside0.mk H
    clear H
    go_enter Try.func4, Try.ntmps4
    try go_wp2_with (first | ((with_reducible refine gate_callee (f := 14) rfl ?_); refine goesL_ (some 10) rfl rfl Try.func14 z4_7 rfl #[.slice A0 l0.length c0] rfl z4_1 ?_; (with_reducible refine (laws_big.calls _ _ l0 false _ ?side1 ?side2 A2.out).mono ?_); (case side1 => repeat (first | exact HR0.out | (with_reducible refine Kd.C_alloc ?_ _) | (with_reducible refine Kd.C_drewN ?_ _) | (with_reducible refine Kd.C_drew ?_))); (case side2 => exact HC0.out); rintro e w' ⟨rfl, ⟨nd, rfl⟩⟩; refine ⟨_, rfl, ?_⟩) | ((with_reducible refine gate_callee (f := 15) rfl ?_); refine goesL_ (some 13) rfl rfl Try.func15 z4_7 rfl #[.slice A0 l0.length c0] rfl z4_1 ?_; (with_reducible refine (spec_DrawCondAnd.calls k _ _ l0 t463 t464 t465 t466 t469 t470 t471 t472 _ ?side1 ?side2 A4.out).mono ?_); (case side1 => repeat (first | exact HR0.out | (with_reducible refine Kd.C_alloc ?_ _) | (with_reducible refine Kd.C_drewN ?_ _) | (with_reducible refine Kd.C_drew ?_))); (case side2 => exact HC0.out); rintro e w8 ⟨v467, v473, rfl, ho0, ho1, hb⟩; refine ⟨_, rfl, ?_⟩; have n0_ := Aside0.mk (Kd.S_lower ho0 (below_size z4_9)); have n1_ := Aside0.mk (Kd.S_lower ho1 (below_size z4_9)); have n2_ := Aside0.mk (below_step z4_9 hb); clear HB; have HO468 := n0_; have HO474 := n1_; have HB := n2_; clear n0_ n1_ n2_; (try clear hb); (try clear hb2); (try clear hk); (try clear hi); (try clear ho0); (try clear ho1)) | ((with_reducible refine gate_dst (N := 3) rfl ?_); refine box_event ?hg (N := 3) ?hd (cs := #[.int .i64 0, .int .i64 0, .int .i64 0, .slice none 0 0]) (t := 29) ?hr ?_; (case hd => rfl); (case hg => rfl); (case hr => first | (go_simp; done) | (go_simp; rfl)); intro gb475 hg w9 hbox hb; have n0_ := Aside0.mk (Kd.S_below (Kd.S_elderB z4_3 gb475 (Nat.le_of_eq hg.symm)) hb); have n1_ := Aside0.mk (Kd.S_below (Kd.S_elderB z4_2 gb475 (Nat.le_of_eq hg.symm)) hb); have n2_ := Aside0.mk (below_step z4_9 hb); have n3_ := Aside0.mk (hbox); have n4_ := Aside0.mk ((by rw [hg]; exact (below_size z4_9) : w.heap.size ≤ gb475)); have n5_ := Aside0.mk ((by rw [hg]; exact (below_size z4_9) : w.heap.size ≤ gb475)); clear HO468; clear HO474; clear HB; have HO468 := n0_; have HO474 := n1_; have HB := n2_; have BK475 := n3_; have GW475 := n4_; have GE475 := n5_; clear n0_ n1_ n2_ n3_ n4_ n5_; clear hb hbox hg) | ((with_reducible refine gate_dst (N := 4) rfl ?_); refine box_event ?hg (N := 4) ?hd (cs := #[.int .i64 0, .int .i64 0, .int .i64 0, .slice none 0 0]) (t := 29) ?hr ?_; (case hd => rfl); (case hg => rfl); (case hr => first | (go_simp; done) | (go_simp; rfl)); intro gb476 hg w10 hbox hb; have n0_ := Aside0.mk (Kd.S_below (Kd.S_elderB z4_3 gb476 (Nat.le_of_eq hg.symm)) hb); have n1_ := Aside0.mk (Kd.S_below (Kd.S_elderB z4_2 gb476 (Nat.le_of_eq hg.symm)) hb); have n2_ := Aside0.mk (blk_below (g := gb475) (o := .cells #[.int .i64 0, .int .i64 0, .int .i64 0, .slice none 0 0] 29 (0, 0)) (pB4_ BK475.out) hb); have n3_ := Aside0.mk (below_step z4_13 hb); have n4_ := Aside0.mk (hbox); have n5_ := Aside0.mk ((by rw [hg]; exact (below_size z4_13) : w.heap.size ≤ gb476)); have n6_ := Aside0.mk ((by rw [hg]; exact (below_size z4_13) : w.heap.size ≤ gb476)); have n7_ := Aside0.mk ((by rw [hg]; exact Nat.ne_of_lt (blk_lt (g := gb475) (o := .cells #[.int .i64 0, .int .i64 0, .int .i64 0, .slice none 0 0] 29 (0, 0)) (pB4_ BK475.out)) : gb475 ≠ gb476)); have n8_ := Aside0.mk ((by rw [hg]; exact Nat.ne_of_gt (blk_lt (g := gb475) (o := .cells #[.int .i64 0, .int .i64 0, .int .i64 0, .slice none 0 0] 29 (0, 0)) (pB4_ BK475.out)) : gb476 ≠ gb475)); clear HO468; clear HO474; clear BK475; clear HB; have HO468 := n0_; have HO474 := n1_; have BK475 := n2_; have HB := n3_; have BK476 := n4_; have GW476 := n5_; have GE476 := n6_; have NB475_476 := n7_; have NB476_475 := n8_; clear n0_ n1_ n2_ n3_ n4_ n5_ n6_ n7_ n8_; clear hb hbox hg; have hnb11 := NB475_476.out; have hnc11 := NB476_475.out; have hcz12_0 : w10.cell? ⟨gb475, 0, none⟩ = some (.int .i64 0) := (bC_ BK475.out 0).trans rfl; have hcz12_1 : w10.cell? ⟨gb475, 1, none⟩ = some (.int .i64 0) := (bC_ BK475.out 1).trans rfl; have hcz12_2 : w10.cell? ⟨gb475, 2, none⟩ = some (.int .i64 0) := (bC_ BK475.out 2).trans rfl; have hcz12_3 : w10.cell? ⟨gb475, 3, none⟩ = some (.slice none 0 0) := (bC_ BK475.out 3).trans rfl; have hfz12_0 := bF_ BK475.out 0; have hfz12_1 := bF_ BK475.out 1; have hfz12_2 := bF_ BK475.out 2; have hfz12_3 := bF_ BK475.out 3; obtain ⟨Ao13, co13, eo13⟩ := Kd.S_slice HO468.out; subst eo13; have hcz14_0 : w10.cell? ⟨gb476, 0, none⟩ = some (.int .i64 0) := (bC_ BK476.out 0).trans rfl; have hcz14_1 : w10.cell? ⟨gb476, 1, none⟩ = some (.int .i64 0) := (bC_ BK476.out 1).trans rfl; have hcz14_2 : w10.cell? ⟨gb476, 2, none⟩ = some (.int .i64 0) := (bC_ BK476.out 2).trans rfl; have hcz14_3 : w10.cell? ⟨gb476, 3, none⟩ = some (.slice none 0 0) := (bC_ BK476.out 3).trans rfl; have hfz14_0 := bF_ BK476.out 0; have hfz14_1 := bF_ BK476.out 1; have hfz14_2 := bF_ BK476.out 2; have hfz14_3 := bF_ BK476.out 3; obtain ⟨Ao15, co15, eo15⟩ := Kd.S_slice HO474.out; subst eo15))
    have n0_ : Aside0 (Kd.S k29 29 ((((((((w10.setCell ⟨gb475, 0, none⟩ (.int .i64 t463)).setCell ⟨gb475, 1, none⟩ (.int .i64 t464)).setCell ⟨gb475, 2, none⟩ (.int .i64 t465)).setCell ⟨gb475, 3, none⟩ (.slice Ao13 t466.length co13)).setCell ⟨gb476, 0, none⟩ (.int .i64 t469)).setCell ⟨gb476, 1, none⟩ (.int .i64 t470)).setCell ⟨gb476, 2, none⟩ (.int .i64 t471)).setCell ⟨gb476, 3, none⟩ (.slice Ao15 t472.length co15)) w.heap.size (fun k_ => some k_ ≠ (.slice Ao15 t472.length co15 : Value).ownBlock ∧ k_ ≠ gb475 ∧ k_ ≠ gb476) (.slice Ao13 t466.length co13) t466) := ⟨by (with_reducible repeat (first | apply Kd.S_alloc | apply Kd.S_drewN | apply Kd.S_drew)); exact Kd.S_mono (Kd.S_far (p := ⟨gb476, 3, none⟩) (Kd.S_far (p := ⟨gb476, 2, none⟩) (Kd.S_far (p := ⟨gb476, 1, none⟩) (Kd.S_far (p := ⟨gb476, 0, none⟩) (Kd.S_far (p := ⟨gb475, 3, none⟩) (Kd.S_far (p := ⟨gb475, 2, none⟩) (Kd.S_far (p := ⟨gb475, 1, none⟩) (Kd.S_far (p := ⟨gb475, 0, none⟩) (Kd.S_mono (Kd.S_mono HO468.out (fun k_ hk => (⟨hk, hk.1.2⟩ : _ ∧ k_ ≠ gb475))) (fun k_ hk => (⟨hk, hk.1.2⟩ : _ ∧ k_ ≠ gb476))) (fun _ hk => hk.1.2) (.int .i64 t463)) (fun _ hk => hk.1.2) (.int .i64 t464)) (fun _ hk => hk.1.2) (.int .i64 t465)) (fun _ hk => hk.1.2) (.slice Ao13 t466.length co13)) (fun _ hk => hk.2) (.int .i64 t469)) (fun _ hk => hk.2) (.int .i64 t470)) (fun _ hk => hk.2) (.int .i64 t471)) (fun _ hk => hk.2) (.slice Ao15 t472.length co15)) (fun _ hk => ⟨hk.1.1.1.1, ⟨hk.1.1.1.2, hk.1.1.2⟩⟩)⟩
    have n1_ : Aside0 (Kd.S k29 29 ((((((((w10.setCell ⟨gb475, 0, none⟩ (.int .i64 t463)).setCell ⟨gb475, 1, none⟩ (.int .i64 t464)).setCell ⟨gb475, 2, none⟩ (.int .i64 t465)).setCell ⟨gb475, 3, none⟩ (.slice Ao13 t466.length co13)).setCell ⟨gb476, 0, none⟩ (.int .i64 t469)).setCell ⟨gb476, 1, none⟩ (.int .i64 t470)).setCell ⟨gb476, 2, none⟩ (.int .i64 t471)).setCell ⟨gb476, 3, none⟩ (.slice Ao15 t472.length co15)) w.heap.size (fun k_ => some k_ ≠ (.slice Ao13 t466.length co13 : Value).ownBlock ∧ k_ ≠ gb475 ∧ k_ ≠ gb476) (.slice Ao15 t472.length co15) t472) := ⟨by (with_reducible repeat (first | apply Kd.S_alloc | apply Kd.S_drewN | apply Kd.S_drew)); exact Kd.S_mono (Kd.S_far (p := ⟨gb476, 3, none⟩) (Kd.S_far (p := ⟨gb476, 2, none⟩) (Kd.S_far (p := ⟨gb476, 1, none⟩) (Kd.S_far (p := ⟨gb476, 0, none⟩) (Kd.S_far (p := ⟨gb475, 3, none⟩) (Kd.S_far (p := ⟨gb475, 2, none⟩) (Kd.S_far (p := ⟨gb475, 1, none⟩) (Kd.S_far (p := ⟨gb475, 0, none⟩) (Kd.S_mono (Kd.S_mono HO474.out (fun k_ hk => (⟨hk, hk.1.2⟩ : _ ∧ k_ ≠ gb475))) (fun k_ hk => (⟨hk, hk.1.2⟩ : _ ∧ k_ ≠ gb476))) (fun _ hk => hk.1.2) (.int .i64 t463)) (fun _ hk => hk.1.2) (.int .i64 t464)) (fun _ hk => hk.1.2) (.int .i64 t465)) (fun _ hk => hk.1.2) (.slice Ao13 t466.length co13)) (fun _ hk => hk.2) (.int .i64 t469)) (fun _ hk => hk.2) (.int .i64 t470)) (fun _ hk => hk.2) (.int .i64 t471)) (fun _ hk => hk.2) (.slice Ao15 t472.length co15)) (fun _ hk => ⟨hk.1.1.1.1, ⟨hk.1.1.1.2, hk.1.1.2⟩⟩)⟩
    have n2_ : Aside0 (((((((((w10.setCell ⟨gb475, 0, none⟩ (.int .i64 t463)).setCell ⟨gb475, 1, none⟩ (.int .i64 t464)).setCell ⟨gb475, 2, none⟩ (.int .i64 t465)).setCell ⟨gb475, 3, none⟩ (.slice Ao13 t466.length co13)).setCell ⟨gb476, 0, none⟩ (.int .i64 t469)).setCell ⟨gb476, 1, none⟩ (.int .i64 t470)).setCell ⟨gb476, 2, none⟩ (.int .i64 t471)).setCell ⟨gb476, 3, none⟩ (.slice Ao15 t472.length co15)).heap[gb475]? = some (.cells #[.int .i64 t463, .int .i64 t464, .int .i64 t465, .slice Ao13 t466.length co13] 29 (0, 0))) := ⟨by (with_reducible repeat (first | refine blk_drewN ?_ _ | refine blk_drew ?_ | refine blk_alloc ?_ _)); refine blk_far ?_ NB475_476.out _; (with_reducible repeat (first | refine blk_drewN ?_ _ | refine blk_drew ?_ | refine blk_alloc ?_ _)); refine blk_far ?_ NB475_476.out _; (with_reducible repeat (first | refine blk_drewN ?_ _ | refine blk_drew ?_ | refine blk_alloc ?_ _)); refine blk_far ?_ NB475_476.out _; (with_reducible repeat (first | refine blk_drewN ?_ _ | refine blk_drew ?_ | refine blk_alloc ?_ _)); refine blk_far ?_ NB475_476.out _; (with_reducible repeat (first | refine blk_drewN ?_ _ | refine blk_drew ?_ | refine blk_alloc ?_ _)); refine blk_put (cs := #[.int .i64 t463, .int .i64 t464, .int .i64 t465, .slice none 0 0]) ?_ 3 _ rfl; (with_reducible repeat (first | refine blk_drewN ?_ _ | refine blk_drew ?_ | refine blk_alloc ?_ _)); refine blk_put (cs := #[.int .i64 t463, .int .i64 t464, .int .i64 0, .slice none 0 0]) ?_ 2 _ rfl; (with_reducible repeat (first | refine blk_drewN ?_ _ | refine blk_drew ?_ | refine blk_alloc ?_ _)); refine blk_put (cs := #[.int .i64 t463, .int .i64 0, .int .i64 0, .slice none 0 0]) ?_ 1 _ rfl; (with_reducible repeat (first | refine blk_drewN ?_ _ | refine blk_drew ?_ | refine blk_alloc ?_ _)); refine blk_put (cs := #[.int .i64 0, .int .i64 0, .int .i64 0, .slice none 0 0]) ?_ 0 _ rfl; (with_reducible repeat (first | refine blk_drewN ?_ _ | refine blk_drew ?_ | refine blk_alloc ?_ _)); exact BK475.out⟩
    have n3_ : Aside0 (((((((((w10.setCell ⟨gb475, 0, none⟩ (.int .i64 t463)).setCell ⟨gb475, 1, none⟩ (.int .i64 t464)).setCell ⟨gb475, 2, none⟩ (.int .i64 t465)).setCell ⟨gb475, 3, none⟩ (.slice Ao13 t466.length co13)).setCell ⟨gb476, 0, none⟩ (.int .i64 t469)).setCell ⟨gb476, 1, none⟩ (.int .i64 t470)).setCell ⟨gb476, 2, none⟩ (.int .i64 t471)).setCell ⟨gb476, 3, none⟩ (.slice Ao15 t472.length co15)).heap[gb476]? = some (.cells #[.int .i64 t469, .int .i64 t470, .int .i64 t471, .slice Ao15 t472.length co15] 29 (0, 0))) := ⟨by (with_reducible repeat (first | refine blk_drewN ?_ _ | refine blk_drew ?_ | refine blk_alloc ?_ _)); refine blk_put (cs := #[.int .i64 t469, .int .i64 t470, .int .i64 t471, .slice none 0 0]) ?_ 3 _ rfl; (with_reducible repeat (first | refine blk_drewN ?_ _ | refine blk_drew ?_ | refine blk_alloc ?_ _)); refine blk_put (cs := #[.int .i64 t469, .int .i64 t470, .int .i64 0, .slice none 0 0]) ?_ 2 _ rfl; (with_reducible repeat (first | refine blk_drewN ?_ _ | refine blk_drew ?_ | refine blk_alloc ?_ _)); refine blk_put (cs := #[.int .i64 t469, .int .i64 0, .int .i64 0, .slice none 0 0]) ?_ 1 _ rfl; (with_reducible repeat (first | refine blk_drewN ?_ _ | refine blk_drew ?_ | refine blk_alloc ?_ _)); refine blk_put (cs := #[.int .i64 0, .int .i64 0, .int .i64 0, .slice none 0 0]) ?_ 0 _ rfl; (with_reducible repeat (first | refine blk_drewN ?_ _ | refine blk_drew ?_ | refine blk_alloc ?_ _)); refine blk_far ?_ NB476_475.out _; (with_reducible repeat (first | refine blk_drewN ?_ _ | refine blk_drew ?_ | refine blk_alloc ?_ _)); refine blk_far ?_ NB476_475.out _; (with_reducible repeat (first | refine blk_drewN ?_ _ | refine blk_drew ?_ | refine blk_alloc ?_ _)); refine blk_far ?_ NB476_475.out _; (with_reducible repeat (first | refine blk_drewN ?_ _ | refine blk_drew ?_ | refine blk_alloc ?_ _)); refine blk_far ?_ NB476_475.out _; (with_reducible repeat (first | refine blk_drewN ?_ _ | refine blk_drew ?_ | refine blk_alloc ?_ _)); exact BK476.out⟩
    have n4_ : Aside0 (Below w.heap.size w ((((((((w10.setCell ⟨gb475, 0, none⟩ (.int .i64 t463)).setCell ⟨gb475, 1, none⟩ (.int .i64 t464)).setCell ⟨gb475, 2, none⟩ (.int .i64 t465)).setCell ⟨gb475, 3, none⟩ (.slice Ao13 t466.length co13)).setCell ⟨gb476, 0, none⟩ (.int .i64 t469)).setCell ⟨gb476, 1, none⟩ (.int .i64 t470)).setCell ⟨gb476, 2, none⟩ (.int .i64 t471)).setCell ⟨gb476, 3, none⟩ (.slice Ao15 t472.length co15))) := ⟨by repeat (first | (with_reducible first | exact HB.out | apply bA_ | apply bN_ | apply bD_ | refine bS_ ?_ GE475.out | refine bS_ ?_ GE476.out) | exact HB.out)⟩
    (try clear HO468)
    (try clear HO474)
    (try clear BK475)
    (try clear BK476)
    (try clear HB)
    generalize ((((((((w10.setCell ⟨gb475, 0, none⟩ (.int .i64 t463)).setCell ⟨gb475, 1, none⟩ (.int .i64 t464)).setCell ⟨gb475, 2, none⟩ (.int .i64 t465)).setCell ⟨gb475, 3, none⟩ (.slice Ao13 t466.length co13)).setCell ⟨gb476, 0, none⟩ (.int .i64 t469)).setCell ⟨gb476, 1, none⟩ (.int .i64 t470)).setCell ⟨gb476, 2, none⟩ (.int .i64 t471)).setCell ⟨gb476, 3, none⟩ (.slice Ao15 t472.length co15)) = w16 at n0_ n1_ n2_ n3_ n4_ ⊢
    have HO468 := n0_
    have HO474 := n1_
    have BK475 := n2_
    have BK476 := n3_
    have HB := n4_
    clear n0_ n1_ n2_ n3_ n4_
    have n0_ := Aside0.mk (Kd.S_drew HO468.out)
    have n1_ := Aside0.mk (Kd.S_drew HO474.out)
    have n2_ := Aside0.mk (blk_drew BK475.out)
    have n3_ := Aside0.mk (blk_drew BK476.out)
    have n4_ := Aside0.mk (bD_ HB.out)
    clear HO468
    clear HO474
    clear BK475
    clear BK476
    clear HB
    have HO468 := n0_
    have HO474 := n1_
    have BK475 := n2_
    have BK476 := n3_
    have HB := n4_
    clear n0_ n1_ n2_ n3_ n4_
    refine start_ (n := 7) (S := fun w' => w'.cell? ⟨gb475, 0, none⟩ = some (.int .i64 t463) ∧ w'.cell? ⟨gb475, 1, none⟩ = some (.int .i64 t464) ∧ w'.cell? ⟨gb475, 2, none⟩ = some (.int .i64 t465) ∧ w'.cell? ⟨gb475, 3, none⟩ = some (.slice Ao13 t466.length co13) ∧ w'.cell? ⟨gb476, 0, none⟩ = some (.int .i64 t469) ∧ w'.cell? ⟨gb476, 1, none⟩ = some (.int .i64 t470) ∧ w'.cell? ⟨gb476, 2, none⟩ = some (.int .i64 t471) ∧ w'.cell? ⟨gb476, 3, none⟩ = some (.slice Ao15 t472.length co15)) (ds := []) #[false, false, false, false, false, false, false] z4_7 rfl rfl ⟨(bC_ BK475.out 0).trans rfl, (bC_ BK475.out 1).trans rfl, (bC_ BK475.out 2).trans rfl, (bC_ BK475.out 3).trans rfl, (bC_ BK476.out 0).trans rfl, (bC_ BK476.out 1).trans rfl, (bC_ BK476.out 2).trans rfl, (bC_ BK476.out 3).trans rfl⟩ (fun hHeld => ?_)
    generalize w16.drew = w17 at HO468 HO474 BK475 BK476 HB hHeld ⊢
    refine take_ (i := 0) (N := some 16) (v := ?_) (a' := ?_) #[true, false, false, false, false, false, false] rfl rfl z4_7 (fun _ _ _ h => h) (Or.inl ⟨by rfl, ?_⟩) hHeld ?_ ?_
    rotate_left
    · rintro w' ⟨s0, s1, s2, s3, s4, s5, s6, s7⟩
      go_simp
      with_reducible rfl
    rotate_left
    · simp only [Act.put, List.setIfInBounds_toArray, List.set_cons_zero, List.set_cons_succ, i64_w, i32_w]
      rfl
    refine take_ (i := 2) (N := some 18) (v := ?_) (a' := ?_) #[true, false, true, false, false, false, false] rfl rfl z4_7 (fun _ _ _ h => h) (Or.inl ⟨by rfl, ?_⟩) hHeld ?_ ?_
    rotate_left
    · rintro w' ⟨s0, s1, s2, s3, s4, s5, s6, s7⟩
      go_simp
      with_reducible rfl
    rotate_left
    · simp only [Act.put, List.setIfInBounds_toArray, List.set_cons_zero, List.set_cons_succ, i64_w, i32_w]
      rfl
    refine one_ (i := 1) (N := some 17) #[true, true, true, false, false, false, false] rfl rfl z4_7 (by decide) (fun K hK => ?_)
    refine goes_ Try.func16 z4_7 rfl #[.agg #[.int .i64 t463, .int .i64 t464, .int .i64 t465, .slice Ao13 t466.length co13]] (by rfl) rfl rfl z4_1 ?_
    with_reducible refine (impl_SizeOf.calls k t463 t464 t465 _ _ t466 t477 _ ?side1 ?side2 A5.out).mono ?_
    (case side1 => repeat (first | exact (Kd.S_reads' HO468.out).2.2 | (with_reducible refine Kd.C_alloc ?_ _) | (with_reducible refine Kd.C_drewN ?_ _) | (with_reducible refine Kd.C_drew ?_)))
    (case side2 => exact (Kd.S_reads' HO468.out).2.1)
    rintro e w18 ⟨rfl, hb⟩
    refine ⟨_, rfl, ?_⟩
    have n0_ := Aside0.mk (Kd.S_below z4_3 hb)
    have n1_ := Aside0.mk (Kd.S_below z4_2 hb)
    have n2_ := Aside0.mk (blk_below (g := gb475) (o := .cells #[.int .i64 t463, .int .i64 t464, .int .i64 t465, .slice Ao13 t466.length co13] 29 (0, 0)) (pB4_ BK475.out) hb)
    have n3_ := Aside0.mk (blk_below (g := gb476) (o := .cells #[.int .i64 t469, .int .i64 t470, .int .i64 t471, .slice Ao15 t472.length co15] 29 (0, 0)) (pB4_ BK476.out) hb)
    have n4_ := Aside0.mk (below_step z4_0 hb)
    clear HO468
    clear HO474
    clear BK475
    clear BK476
    clear HB
    have HO468 := n0_
    have HO474 := n1_
    have BK475 := n2_
    have BK476 := n3_
    have HB := n4_
    clear n0_ n1_ n2_ n3_ n4_
    (try clear hb)
    (try clear hb2)
    (try clear hk)
    (try clear hi)
    refine hK.out _ _ ⟨(bC_ BK475.out 0).trans rfl, (bC_ BK475.out 1).trans rfl, (bC_ BK475.out 2).trans rfl, (bC_ BK475.out 3).trans rfl, (bC_ BK476.out 0).trans rfl, (bC_ BK476.out 1).trans rfl, (bC_ BK476.out 2).trans rfl, (bC_ BK476.out 3).trans rfl⟩ (fun hHeld => ?_)
    clear hK K
    refine norm_ (a' := ?_) ?_ ?_
    rotate_left
    · show Act.put _ (some 17) _ = _
      simp only [Act.put, List.setIfInBounds_toArray, List.set_cons_zero, List.set_cons_succ, i64_w, i32_w]
      rfl
    refine one_ (i := 3) (N := some 19) #[true, true, true, true, false, false, false] rfl rfl z4_7 (by decide) (fun K hK => ?_)
    refine goes_ Try.func16 z4_7 rfl #[.agg #[.int .i64 t469, .int .i64 t470, .int .i64 t471, .slice Ao15 t472.length co15]] (by rfl) rfl rfl z4_1 ?_
    with_reducible refine (impl_SizeOf.calls k t469 t470 t471 _ _ t472 t478 _ ?side1 ?side2 A6.out).mono ?_
    (case side1 => repeat (first | exact (Kd.S_reads' HO474.out).2.2 | (with_reducible refine Kd.C_alloc ?_ _) | (with_reducible refine Kd.C_drewN ?_ _) | (with_reducible refine Kd.C_drew ?_)))
    (case side2 => exact (Kd.S_reads' HO474.out).2.1)
    rintro e w19 ⟨rfl, hb⟩
    refine ⟨_, rfl, ?_⟩
    have n0_ := Aside0.mk (Kd.S_below z4_3 hb)
    have n1_ := Aside0.mk (Kd.S_below z4_2 hb)
    have n2_ := Aside0.mk (blk_below (g := gb475) (o := .cells #[.int .i64 t463, .int .i64 t464, .int .i64 t465, .slice Ao13 t466.length co13] 29 (0, 0)) (pB4_ BK475.out) hb)
    have n3_ := Aside0.mk (blk_below (g := gb476) (o := .cells #[.int .i64 t469, .int .i64 t470, .int .i64 t471, .slice Ao15 t472.length co15] 29 (0, 0)) (pB4_ BK476.out) hb)
    have n4_ := Aside0.mk (below_step z4_0 hb)
    clear HO468
    clear HO474
    clear BK475
    clear BK476
    clear HB
    have HO468 := n0_
    have HO474 := n1_
    have BK475 := n2_
    have BK476 := n3_
    have HB := n4_
    clear n0_ n1_ n2_ n3_ n4_
    (try clear hb)
    (try clear hb2)
    (try clear hk)
    (try clear hi)
    refine hK.out _ _ ⟨(bC_ BK475.out 0).trans rfl, (bC_ BK475.out 1).trans rfl, (bC_ BK475.out 2).trans rfl, (bC_ BK475.out 3).trans rfl, (bC_ BK476.out 0).trans rfl, (bC_ BK476.out 1).trans rfl, (bC_ BK476.out 2).trans rfl, (bC_ BK476.out 3).trans rfl⟩ (fun hHeld => ?_)
    clear hK K
    refine norm_ (a' := ?_) ?_ ?_
    rotate_left
    · show Act.put _ (some 19) _ = _
      simp only [Act.put, List.setIfInBounds_toArray, List.set_cons_zero, List.set_cons_succ, i64_w, i32_w]
      rfl
    refine pure_ (i := 4) (N := some 20) (v := ?_) (a' := ?_) #[true, true, true, true, true, false, false] rfl rfl z4_7 (fun _ _ _ h => h) (Or.inl ⟨by rfl, ?_⟩) ?_ ?_
    rotate_left
    · intro w'
      go_simp
      with_reducible rfl
    rotate_left
    · simp only [Act.put, List.setIfInBounds_toArray, List.set_cons_zero, List.set_cons_succ, i64_w, i32_w]
      rfl
    refine pure_ (i := 5) (N := some 21) (v := ?_) (a' := ?_) #[true, true, true, true, true, true, false] rfl rfl z4_7 (fun _ _ _ h => h) (Or.inl ⟨by rfl, ?_⟩) ?_ ?_
    rotate_left
    · intro w'
      go_simp
      with_reducible rfl
    rotate_left
    · simp only [Act.put, List.setIfInBounds_toArray, List.set_cons_zero, List.set_cons_succ, i64_w, i32_w]
      rfl
    refine pure_ (i := 6) (N := some 5) (v := ?_) (a' := ?_) #[true, true, true, true, true, true, true] rfl rfl z4_7 (fun _ _ _ h => h) (Or.inl ⟨by rfl, ?_⟩) ?_ ?_
    rotate_left
    · intro w'
      go_simp
      with_reducible rfl
    rotate_left
    · simp only [Act.put, List.setIfInBounds_toArray, List.set_cons_zero, List.set_cons_succ, i64_w, i32_w]
      rfl
    refine done_ z4_7 ?_
    go_upto_region 5 with (fail)
    go_cut [44] (fun v44 wc => ∃ (kq : Nat) (x44_6 : Bool), v44 = .bool x44_6 ∧ Aside0 (laws_FnConditions.j0 kq (wrap64 ((wrap64 (t477 + t478)) + 1)) x44_6 t463 t464 t465 t466 t469 t470 t471 t472 = some r) ∧ Aside0 (kq ≤ k) ∧ Aside0 (Kd.S k29 29 wc w.heap.size (fun k_ => some k_ ≠ ((.slice Ao15 t472.length co15) : Value).ownBlock ∧ k_ ≠ gb475 ∧ k_ ≠ gb476) (.slice Ao13 t466.length co13) t466) ∧ Aside0 (Kd.S k29 29 wc w.heap.size (fun k_ => some k_ ≠ ((.slice Ao13 t466.length co13) : Value).ownBlock ∧ k_ ≠ gb475 ∧ k_ ≠ gb476) (.slice Ao15 t472.length co15) t472) ∧ Aside0 (wc.heap[gb475]? = some (.cells #[.int .i64 t463, .int .i64 t464, .int .i64 t465, (.slice Ao13 t466.length co13)] 29 (0, 0))) ∧ Aside0 (wc.heap[gb476]? = some (.cells #[.int .i64 t469, .int .i64 t470, .int .i64 t471, (.slice Ao15 t472.length co15)] 29 (0, 0))) ∧ Aside0 (Below w.heap.size w wc))
    case first =>
      have H := HC7.out
      clear HC7
      replace H := Option.bind_eq_some_iff.mp H
      obtain ⟨⟨t479, t480, t481, t482⟩, A200, H⟩ := H
      replace H : ((impl_SizeOf.f k t479 t480 t481 t482).bind fun t485 => (if t485 = (wrap64 ((wrap64 (t477 + t478)) + 1)) then ((impl_CondOr.f k t463 t464 t465 t466 t469 t470 t471 t472).bind fun bt486 => ((impl_SizeOf.f k bt486.1 bt486.2.1 bt486.2.2.1 bt486.2.2.2).bind fun t492 => (if t492 = (wrap64 ((wrap64 (t477 + t478)) + 1)) then ((impl_CondNot.f k t463 t464 t465 t466).bind fun bt493 => ((impl_SizeOf.f k bt493.1 bt493.2.1 bt493.2.2.1 bt493.2.2.2).bind fun t499 => ((impl_SizeOf.f k t463 t464 t465 t466).bind fun t500 => (laws_FnConditions.j0 k (wrap64 ((wrap64 (t477 + t478)) + 1)) (t499 != (wrap64 (t500 + 1))) t463 t464 t465 t466 t469 t470 t471 t472)))) else (laws_FnConditions.j0 k (wrap64 ((wrap64 (t477 + t478)) + 1)) true t463 t464 t465 t466 t469 t470 t471 t472)))) else (laws_FnConditions.j0 k (wrap64 ((wrap64 (t477 + t478)) + 1)) true t463 t464 t465 t466 t469 t470 t471 t472))) = some r := H
      have A20 := Aside0.mk A200
      clear A200
      replace H := Option.bind_eq_some_iff.mp H
      obtain ⟨t485, A210, H⟩ := H
      replace H : (if t485 = (wrap64 ((wrap64 (t477 + t478)) + 1)) then ((impl_CondOr.f k t463 t464 t465 t466 t469 t470 t471 t472).bind fun bt486 => ((impl_SizeOf.f k bt486.1 bt486.2.1 bt486.2.2.1 bt486.2.2.2).bind fun t492 => (if t492 = (wrap64 ((wrap64 (t477 + t478)) + 1)) then ((impl_CondNot.f k t463 t464 t465 t466).bind fun bt493 => ((impl_SizeOf.f k bt493.1 bt493.2.1 bt493.2.2.1 bt493.2.2.2).bind fun t499 => ((impl_SizeOf.f k t463 t464 t465 t466).bind fun t500 => (laws_FnConditions.j0 k (wrap64 ((wrap64 (t477 + t478)) + 1)) (t499 != (wrap64 (t500 + 1))) t463 t464 t465 t466 t469 t470 t471 t472)))) else (laws_FnConditions.j0 k (wrap64 ((wrap64 (t477 + t478)) + 1)) true t463 t464 t465 t466 t469 t470 t471 t472)))) else (laws_FnConditions.j0 k (wrap64 ((wrap64 (t477 + t478)) + 1)) true t463 t464 t465 t466 t469 t470 t471 t472)) = some r := H
      have A21 := Aside0.mk A210
      clear A210
      by_cases c22 : t485 = (wrap64 ((wrap64 (t477 + t478)) + 1))
      · rw [if_pos c22] at H
        have c22b0 : (t485 == (wrap64 ((wrap64 (t477 + t478)) + 1))) = true := beq_iff_eq.mpr c22
        have c22b1 : (t485 != (wrap64 ((wrap64 (t477 + t478)) + 1))) = false := bne_eq_false_iff_eq.mpr c22
        clear c22
        (first | rw [c22b0] | (simp only [i64_w, i32_w]; rw [c22b0]) | skip)
        replace H := Option.bind_eq_some_iff.mp H
        obtain ⟨⟨t486, t487, t488, t489⟩, A230, H⟩ := H
        replace H : ((impl_SizeOf.f k t486 t487 t488 t489).bind fun t492 => (if t492 = (wrap64 ((wrap64 (t477 + t478)) + 1)) then ((impl_CondNot.f k t463 t464 t465 t466).bind fun bt493 => ((impl_SizeOf.f k bt493.1 bt493.2.1 bt493.2.2.1 bt493.2.2.2).bind fun t499 => ((impl_SizeOf.f k t463 t464 t465 t466).bind fun t500 => (laws_FnConditions.j0 k (wrap64 ((wrap64 (t477 + t478)) + 1)) (t499 != (wrap64 (t500 + 1))) t463 t464 t465 t466 t469 t470 t471 t472)))) else (laws_FnConditions.j0 k (wrap64 ((wrap64 (t477 + t478)) + 1)) true t463 t464 t465 t466 t469 t470 t471 t472))) = some r := H
        have A23 := Aside0.mk A230
        clear A230
        replace H := Option.bind_eq_some_iff.mp H
        obtain ⟨t492, A240, H⟩ := H
        replace H : (if t492 = (wrap64 ((wrap64 (t477 + t478)) + 1)) then ((impl_CondNot.f k t463 t464 t465 t466).bind fun bt493 => ((impl_SizeOf.f k bt493.1 bt493.2.1 bt493.2.2.1 bt493.2.2.2).bind fun t499 => ((impl_SizeOf.f k t463 t464 t465 t466).bind fun t500 => (laws_FnConditions.j0 k (wrap64 ((wrap64 (t477 + t478)) + 1)) (t499 != (wrap64 (t500 + 1))) t463 t464 t465 t466 t469 t470 t471 t472)))) else (laws_FnConditions.j0 k (wrap64 ((wrap64 (t477 + t478)) + 1)) true t463 t464 t465 t466 t469 t470 t471 t472)) = some r := H
        have A24 := Aside0.mk A240
        clear A240
        by_cases c25 : t492 = (wrap64 ((wrap64 (t477 + t478)) + 1))
        · rw [if_pos c25] at H
          have c25b0 : (t492 == (wrap64 ((wrap64 (t477 + t478)) + 1))) = true := beq_iff_eq.mpr c25
          have c25b1 : (t492 != (wrap64 ((wrap64 (t477 + t478)) + 1))) = false := bne_eq_false_iff_eq.mpr c25
          clear c25
          replace H := Option.bind_eq_some_iff.mp H
          obtain ⟨⟨t493, t494, t495, t496⟩, A260, H⟩ := H
          replace H : ((impl_SizeOf.f k t493 t494 t495 t496).bind fun t499 => ((impl_SizeOf.f k t463 t464 t465 t466).bind fun t500 => (laws_FnConditions.j0 k (wrap64 ((wrap64 (t477 + t478)) + 1)) (t499 != (wrap64 (t500 + 1))) t463 t464 t465 t466 t469 t470 t471 t472))) = some r := H
          have A26 := Aside0.mk A260
          clear A260
          replace H := Option.bind_eq_some_iff.mp H
          obtain ⟨t499, A270, H⟩ := H
          replace H : ((impl_SizeOf.f k t463 t464 t465 t466).bind fun t500 => (laws_FnConditions.j0 k (wrap64 ((wrap64 (t477 + t478)) + 1)) (t499 != (wrap64 (t500 + 1))) t463 t464 t465 t466 t469 t470 t471 t472)) = some r := H
          have A27 := Aside0.mk A270
          clear A270
          replace H := Option.bind_eq_some_iff.mp H
          obtain ⟨t500, A280, H⟩ := H
          replace H : (laws_FnConditions.j0 k (wrap64 ((wrap64 (t477 + t478)) + 1)) (t499 != (wrap64 (t500 + 1))) t463 t464 t465 t466 t469 t470 t471 t472) = some r := H
          have A28 := Aside0.mk A280
          clear A280
          have H' := Aside0.mk H
          clear H
          try go_wp2
          have n0_ := Aside0.mk (Kd.S_drew HO468.out)
          have n1_ := Aside0.mk (Kd.S_drew HO474.out)
          have n2_ := Aside0.mk (blk_drew BK475.out)
          have n3_ := Aside0.mk (blk_drew BK476.out)
          have n4_ := Aside0.mk (bD_ HB.out)
          clear HO468
          clear HO474
          clear BK475
          clear BK476
          clear HB
          have HO468 := n0_
          have HO474 := n1_
          have BK475 := n2_
          have BK476 := n3_
          have HB := n4_
          clear n0_ n1_ n2_ n3_ n4_
          refine start_ (n := 23) (S := fun w' => w'.cell? ⟨gb475, 0, none⟩ = some (.int .i64 t463) ∧ w'.cell? ⟨gb475, 1, none⟩ = some (.int .i64 t464) ∧ w'.cell? ⟨gb475, 2, none⟩ = some (.int .i64 t465) ∧ w'.cell? ⟨gb475, 3, none⟩ = some (.slice Ao13 t466.length co13) ∧ w'.cell? ⟨gb476, 0, none⟩ = some (.int .i64 t469) ∧ w'.cell? ⟨gb476, 1, none⟩ = some (.int .i64 t470) ∧ w'.cell? ⟨gb476, 2, none⟩ = some (.int .i64 t471) ∧ w'.cell? ⟨gb476, 3, none⟩ = some (.slice Ao15 t472.length co15)) (ds := []) #[false, false, false, false, false, false, false, false, false, false, false, false, false, false, false, false, false, false, false, false, false, false, false] z4_7 rfl rfl ⟨(bC_ BK475.out 0).trans rfl, (bC_ BK475.out 1).trans rfl, (bC_ BK475.out 2).trans rfl, (bC_ BK475.out 3).trans rfl, (bC_ BK476.out 0).trans rfl, (bC_ BK476.out 1).trans rfl, (bC_ BK476.out 2).trans rfl, (bC_ BK476.out 3).trans rfl⟩ (fun hHeld => ?_); refine with_tabW laws_FnConditions.tab5 laws_FnConditions.bits5 (fun HT_ HW_ => ?_)
          generalize w19.drew = w29 at HO468 HO474 BK475 BK476 HB hHeld ⊢
          refine pure_ (i := 4) (N := some 26) (v := ?_) (a' := ?_) #[false, false, false, false, true, false, false, false, false, false, false, false, false, false, false, false, false, false, false, false, false, false, false] rfl rfl (any_of HT_.out z4_7) (fun _ _ _ h => h) (Or.inl ⟨by rfl, ?_⟩) ?_ ?_
          rotate_left
          · intro w'
            go_simp
            with_reducible rfl
          rotate_left
          · simp only [Act.put, List.setIfInBounds_toArray, List.set_cons_zero, List.set_cons_succ, i64_w, i32_w]
            rfl
          refine take_ (i := 0) (N := some 22) (v := ?_) (a' := ?_) #[true, false, false, false, true, false, false, false, false, false, false, false, false, false, false, false, false, false, false, false, false, false, false] rfl rfl (take_ofW HT_.out HW_.out z4_7) (fun _ _ _ h => h) (Or.inl ⟨by rfl, ?_⟩) hHeld ?_ ?_
          rotate_left
          · rintro w' ⟨s0, s1, s2, s3, s4, s5, s6, s7⟩
            go_simp
            with_reducible rfl
          rotate_left
          · simp only [Act.put, List.setIfInBounds_toArray, List.set_cons_zero, List.set_cons_succ, i64_w, i32_w]
            rfl
          refine take_ (i := 1) (N := some 23) (v := ?_) (a' := ?_) #[true, true, false, false, true, false, false, false, false, false, false, false, false, false, false, false, false, false, false, false, false, false, false] rfl rfl (take_ofW HT_.out HW_.out z4_7) (fun _ _ _ h => h) (Or.inl ⟨by rfl, ?_⟩) hHeld ?_ ?_
          rotate_left
          · rintro w' ⟨s0, s1, s2, s3, s4, s5, s6, s7⟩
            go_simp
            with_reducible rfl
          rotate_left
          · simp only [Act.put, List.setIfInBounds_toArray, List.set_cons_zero, List.set_cons_succ, i64_w, i32_w]
            rfl
          refine one_ (i := 2) (N := some 24) #[true, true, true, false, true, false, false, false, false, false, false, false, false, false, false, false, false, false, false, false, false, false, false] rfl rfl (one_of HT_.out z4_7) (by decide) (fun K hK => ?_)
          refine goes_ Try.func17 z4_7 rfl #[.agg #[.int .i64 t463, .int .i64 t464, .int .i64 t465, .slice Ao13 t466.length co13], .agg #[.int .i64 t469, .int .i64 t470, .int .i64 t471, .slice Ao15 t472.length co15]] (by rfl) rfl rfl z4_1 ?_
          with_reducible refine (impl_CondAnd.calls k t463 t464 t465 _ _ t466 t469 t470 t471 _ _ t472 t479 t480 t481 t482 _ ?side1 ?side2 ?side3 ?side4 A20.out).mono ?_
          (case side1 => repeat (first | exact (Kd.S_reads' HO468.out).2.2 | (with_reducible refine Kd.C_alloc ?_ _) | (with_reducible refine Kd.C_drewN ?_ _) | (with_reducible refine Kd.C_drew ?_)))
          (case side2 => exact (Kd.S_reads' HO468.out).2.1)
          (case side3 => repeat (first | exact (Kd.S_reads' HO474.out).2.2 | (with_reducible refine Kd.C_alloc ?_ _) | (with_reducible refine Kd.C_drewN ?_ _) | (with_reducible refine Kd.C_drew ?_)))
          (case side4 => exact (Kd.S_reads' HO474.out).2.1)
          rintro e w30 ⟨v483, rfl, ho0, hb⟩
          refine ⟨_, rfl, ?_⟩
          have n0_ := Aside0.mk (Kd.S_elder' z4_3 (Kd.S_base ho0) hb)
          have n1_ := Aside0.mk (Kd.S_elder' z4_2 (Kd.S_base ho0) hb)
          have n2_ := Aside0.mk (Kd.S_lower (Kd.S_newB (Kd.S_newB (Kd.S_new' (Kd.S_new' ho0 (Kd.S_lt z4_3)) (Kd.S_lt z4_2)) (g := gb475) (o := .cells #[.int .i64 t463, .int .i64 t464, .int .i64 t465, .slice Ao13 t466.length co13] 29 (0, 0)) (pB4_ BK475.out)) (g := gb476) (o := .cells #[.int .i64 t469, .int .i64 t470, .int .i64 t471, .slice Ao15 t472.length co15] 29 (0, 0)) (pB4_ BK476.out)) (below_size z4_0))
          have n3_ := Aside0.mk (blk_below (g := gb475) (o := .cells #[.int .i64 t463, .int .i64 t464, .int .i64 t465, .slice Ao13 t466.length co13] 29 (0, 0)) (pB4_ BK475.out) hb)
          have n4_ := Aside0.mk (blk_below (g := gb476) (o := .cells #[.int .i64 t469, .int .i64 t470, .int .i64 t471, .slice Ao15 t472.length co15] 29 (0, 0)) (pB4_ BK476.out) hb)
          have n5_ := Aside0.mk (below_step z4_0 hb)
          clear HO468
          clear HO474
          clear BK475
          clear BK476
          clear HB
          have HO468 := n0_
          have HO474 := n1_
          have HO484 := n2_
          have BK475 := n3_
          have BK476 := n4_
          have HB := n5_
          clear n0_ n1_ n2_ n3_ n4_ n5_
          (try clear hb)
          (try clear hb2)
          (try clear hk)
          (try clear hi)
          (try clear ho0)
          obtain ⟨Ao31, co31, eo31⟩ := Kd.S_slice HO484.out
          (first | subst eo31 | (injection eo31 with f1_ f2_ f3_; have f4_ := f1_.symm; have f5_ := f3_.symm; clear f1_ f2_ f3_; subst f4_; subst f5_))
          refine hK.out _ _ ⟨(bC_ BK475.out 0).trans rfl, (bC_ BK475.out 1).trans rfl, (bC_ BK475.out 2).trans rfl, (bC_ BK475.out 3).trans rfl, (bC_ BK476.out 0).trans rfl, (bC_ BK476.out 1).trans rfl, (bC_ BK476.out 2).trans rfl, (bC_ BK476.out 3).trans rfl⟩ (fun hHeld => ?_)
          clear hK K
          refine norm_ (a' := ?_) ?_ ?_
          rotate_left
          · show Act.put _ (some 24) _ = _
            simp only [Act.put, List.setIfInBounds_toArray, List.set_cons_zero, List.set_cons_succ, i64_w, i32_w]
            rfl
          refine one_ (i := 3) (N := some 25) #[true, true, true, true, true, false, false, false, false, false, false, false, false, false, false, false, false, false, false, false, false, false, false] rfl rfl (one_of HT_.out z4_7) (by decide) (fun K hK => ?_)
          refine goes_ Try.func16 z4_7 rfl #[.agg #[.int .i64 t479, .int .i64 t480, .int .i64 t481, .slice Ao31 t482.length co31]] (by rfl) rfl rfl z4_1 ?_
          with_reducible refine (impl_SizeOf.calls k t479 t480 t481 _ _ t482 t485 _ ?side1 ?side2 A21.out).mono ?_
          (case side1 => repeat (first | exact (Kd.S_reads' HO484.out).2.2 | (with_reducible refine Kd.C_alloc ?_ _) | (with_reducible refine Kd.C_drewN ?_ _) | (with_reducible refine Kd.C_drew ?_)))
          (case side2 => exact (Kd.S_reads' HO484.out).2.1)
          rintro e w32 ⟨rfl, hb⟩
          refine ⟨_, rfl, ?_⟩
          have n0_ := Aside0.mk (Kd.S_below z4_3 hb)
          have n1_ := Aside0.mk (Kd.S_below z4_2 hb)
          have n2_ := Aside0.mk (Kd.S_below z4_6 hb)
          have n3_ := Aside0.mk (blk_below (g := gb475) (o := .cells #[.int .i64 t463, .int .i64 t464, .int .i64 t465, .slice Ao13 t466.length co13] 29 (0, 0)) (pB4_ BK475.out) hb)
          have n4_ := Aside0.mk (blk_below (g := gb476) (o := .cells #[.int .i64 t469, .int .i64 t470, .int .i64 t471, .slice Ao15 t472.length co15] 29 (0, 0)) (pB4_ BK476.out) hb)
          have n5_ := Aside0.mk (below_step z4_0 hb)
          clear HO468
          clear HO474
          clear HO484
          clear BK475
          clear BK476
          clear HB
          have HO468 := n0_
          have HO474 := n1_
          have HO484 := n2_
          have BK475 := n3_
          have BK476 := n4_
          have HB := n5_
          clear n0_ n1_ n2_ n3_ n4_ n5_
          (try clear hb)
          (try clear hb2)
          (try clear hk)
          (try clear hi)
          refine hK.out _ _ ⟨(bC_ BK475.out 0).trans rfl, (bC_ BK475.out 1).trans rfl, (bC_ BK475.out 2).trans rfl, (bC_ BK475.out 3).trans rfl, (bC_ BK476.out 0).trans rfl, (bC_ BK476.out 1).trans rfl, (bC_ BK476.out 2).trans rfl, (bC_ BK476.out 3).trans rfl⟩ (fun hHeld => ?_)
          clear hK K
          refine norm_ (a' := ?_) ?_ ?_
          rotate_left
          · show Act.put _ (some 25) _ = _
            simp only [Act.put, List.setIfInBounds_toArray, List.set_cons_zero, List.set_cons_succ, i64_w, i32_w]
            rfl
          refine pure_ (i := 5) (N := some 27) (v := ?_) (a' := ?_) #[true, true, true, true, true, true, false, false, false, false, false, false, false, false, false, false, false, false, false, false, false, false, false] rfl rfl (any_of HT_.out z4_7) (fun _ _ _ h => h) (Or.inl ⟨by rfl, ?_⟩) ?_ ?_
          rotate_left
          · intro w'
            go_simp
            with_reducible rfl
          rotate_left
          · simp only [Act.put, List.setIfInBounds_toArray, List.set_cons_zero, List.set_cons_succ, i64_w, i32_w]
            rfl
          refine pure_ (i := 6) (N := some 28) (v := ?_) (a' := ?_) #[true, true, true, true, true, true, true, false, false, false, false, false, false, false, false, false, false, false, false, false, false, false, false] rfl rfl (any_of HT_.out z4_7) (fun _ _ _ h => h) (Or.inl ⟨by rfl, ?_⟩) ?_ ?_
          rotate_left
          · intro w'
            go_simp
            with_reducible rfl
          rotate_left
          · simp only [Act.put, List.setIfInBounds_toArray, List.set_cons_zero, List.set_cons_succ, i64_w, i32_w]
            rfl
          refine pure_ (i := 11) (N := some 33) (v := ?_) (a' := ?_) #[true, true, true, true, true, true, true, false, false, false, false, true, false, false, false, false, false, false, false, false, false, false, false] rfl rfl (any_of HT_.out z4_7) (fun _ _ _ h => h) (Or.inl ⟨by rfl, ?_⟩) ?_ ?_
          rotate_left
          · intro w'
            go_simp
            with_reducible rfl
          rotate_left
          · simp only [Act.put, List.setIfInBounds_toArray, List.set_cons_zero, List.set_cons_succ, i64_w, i32_w]
            rfl
          refine take_ (i := 7) (N := some 29) (v := ?_) (a' := ?_) #[true, true, true, true, true, true, true, true, false, false, false, true, false, false, false, false, false, false, false, false, false, false, false] rfl rfl (take_ofW HT_.out HW_.out z4_7) (fun _ _ _ h => h) (Or.inl ⟨by rfl, ?_⟩) hHeld ?_ ?_
          rotate_left
          · rintro w' ⟨s0, s1, s2, s3, s4, s5, s6, s7⟩
            go_simp
            with_reducible rfl
          rotate_left
          · simp only [Act.put, List.setIfInBounds_toArray, List.set_cons_zero, List.set_cons_succ, i64_w, i32_w]
            rfl
          refine take_ (i := 8) (N := some 30) (v := ?_) (a' := ?_) #[true, true, true, true, true, true, true, true, true, false, false, true, false, false, false, false, false, false, false, false, false, false, false] rfl rfl (take_ofW HT_.out HW_.out z4_7) (fun _ _ _ h => h) (Or.inl ⟨by rfl, ?_⟩) hHeld ?_ ?_
          rotate_left
          · rintro w' ⟨s0, s1, s2, s3, s4, s5, s6, s7⟩
            go_simp
            with_reducible rfl
          rotate_left
          · simp only [Act.put, List.setIfInBounds_toArray, List.set_cons_zero, List.set_cons_succ, i64_w, i32_w]
            rfl
          refine one_ (i := 9) (N := some 31) #[true, true, true, true, true, true, true, true, true, true, false, true, false, false, false, false, false, false, false, false, false, false, false] rfl rfl (one_of HT_.out z4_7) (by decide) (fun K hK => ?_)
          refine goes_ Try.func18 z4_7 rfl #[.agg #[.int .i64 t463, .int .i64 t464, .int .i64 t465, .slice Ao13 t466.length co13], .agg #[.int .i64 t469, .int .i64 t470, .int .i64 t471, .slice Ao15 t472.length co15]] (by rfl) rfl rfl z4_1 ?_
          with_reducible refine (impl_CondOr.calls k t463 t464 t465 _ _ t466 t469 t470 t471 _ _ t472 t486 t487 t488 t489 _ ?side1 ?side2 ?side3 ?side4 A23.out).mono ?_
          (case side1 => repeat (first | exact (Kd.S_reads' HO468.out).2.2 | (with_reducible refine Kd.C_alloc ?_ _) | (with_reducible refine Kd.C_drewN ?_ _) | (with_reducible refine Kd.C_drew ?_)))
          (case side2 => exact (Kd.S_reads' HO468.out).2.1)
          (case side3 => repeat (first | exact (Kd.S_reads' HO474.out).2.2 | (with_reducible refine Kd.C_alloc ?_ _) | (with_reducible refine Kd.C_drewN ?_ _) | (with_reducible refine Kd.C_drew ?_)))
          (case side4 => exact (Kd.S_reads' HO474.out).2.1)
          rintro e w33 ⟨v490, rfl, ho0, hb⟩
          refine ⟨_, rfl, ?_⟩
          have n0_ := Aside0.mk (Kd.S_elder' z4_3 (Kd.S_base ho0) hb)
          have n1_ := Aside0.mk (Kd.S_elder' z4_2 (Kd.S_base ho0) hb)
          have n2_ := Aside0.mk (Kd.S_elder' z4_6 (Kd.S_base ho0) hb)
          have n3_ := Aside0.mk (Kd.S_lower (Kd.S_newB (Kd.S_newB (Kd.S_new' (Kd.S_new' (Kd.S_new' ho0 (Kd.S_lt z4_3)) (Kd.S_lt z4_2)) (Kd.S_lt z4_6)) (g := gb475) (o := .cells #[.int .i64 t463, .int .i64 t464, .int .i64 t465, .slice Ao13 t466.length co13] 29 (0, 0)) (pB4_ BK475.out)) (g := gb476) (o := .cells #[.int .i64 t469, .int .i64 t470, .int .i64 t471, .slice Ao15 t472.length co15] 29 (0, 0)) (pB4_ BK476.out)) (below_size z4_0))
          have n4_ := Aside0.mk (blk_below (g := gb475) (o := .cells #[.int .i64 t463, .int .i64 t464, .int .i64 t465, .slice Ao13 t466.length co13] 29 (0, 0)) (pB4_ BK475.out) hb)
          have n5_ := Aside0.mk (blk_below (g := gb476) (o := .cells #[.int .i64 t469, .int .i64 t470, .int .i64 t471, .slice Ao15 t472.length co15] 29 (0, 0)) (pB4_ BK476.out) hb)
          have n6_ := Aside0.mk (below_step z4_0 hb)
          clear HO468
          clear HO474
          clear HO484
          clear BK475
          clear BK476
          clear HB
          have HO468 := n0_
          have HO474 := n1_
          have HO484 := n2_
          have HO491 := n3_
          have BK475 := n4_
          have BK476 := n5_
          have HB := n6_
          clear n0_ n1_ n2_ n3_ n4_ n5_ n6_
          (try clear hb)
          (try clear hb2)
          (try clear hk)
          (try clear hi)
          (try clear ho0)
          obtain ⟨Ao34, co34, eo34⟩ := Kd.S_slice HO491.out
          (first | subst eo34 | (injection eo34 with f1_ f2_ f3_; have f4_ := f1_.symm; have f5_ := f3_.symm; clear f1_ f2_ f3_; subst f4_; subst f5_))
          refine hK.out _ _ ⟨(bC_ BK475.out 0).trans rfl, (bC_ BK475.out 1).trans rfl, (bC_ BK475.out 2).trans rfl, (bC_ BK475.out 3).trans rfl, (bC_ BK476.out 0).trans rfl, (bC_ BK476.out 1).trans rfl, (bC_ BK476.out 2).trans rfl, (bC_ BK476.out 3).trans rfl⟩ (fun hHeld => ?_)
          clear hK K
          refine norm_ (a' := ?_) ?_ ?_
          rotate_left
          · show Act.put _ (some 31) _ = _
            simp only [Act.put, List.setIfInBounds_toArray, List.set_cons_zero, List.set_cons_succ, i64_w, i32_w]
            rfl
          refine one_ (i := 10) (N := some 32) #[true, true, true, true, true, true, true, true, true, true, true, true, false, false, false, false, false, false, false, false, false, false, false] rfl rfl (one_of HT_.out z4_7) (by decide) (fun K hK => ?_)
          refine goes_ Try.func16 z4_7 rfl #[.agg #[.int .i64 t486, .int .i64 t487, .int .i64 t488, .slice Ao34 t489.length co34]] (by rfl) rfl rfl z4_1 ?_
          with_reducible refine (impl_SizeOf.calls k t486 t487 t488 _ _ t489 t492 _ ?side1 ?side2 A24.out).mono ?_
          (case side1 => repeat (first | exact (Kd.S_reads' HO491.out).2.2 | (with_reducible refine Kd.C_alloc ?_ _) | (with_reducible refine Kd.C_drewN ?_ _) | (with_reducible refine Kd.C_drew ?_)))
          (case side2 => exact (Kd.S_reads' HO491.out).2.1)
          rintro e w35 ⟨rfl, hb⟩
          refine ⟨_, rfl, ?_⟩
          have n0_ := Aside0.mk (Kd.S_below z4_3 hb)
          have n1_ := Aside0.mk (Kd.S_below z4_2 hb)
          have n2_ := Aside0.mk (Kd.S_below z4_6 hb)
          have n3_ := Aside0.mk (Kd.S_below z4_10 hb)
          have n4_ := Aside0.mk (blk_below (g := gb475) (o := .cells #[.int .i64 t463, .int .i64 t464, .int .i64 t465, .slice Ao13 t466.length co13] 29 (0, 0)) (pB4_ BK475.out) hb)
          have n5_ := Aside0.mk (blk_below (g := gb476) (o := .cells #[.int .i64 t469, .int .i64 t470, .int .i64 t471, .slice Ao15 t472.length co15] 29 (0, 0)) (pB4_ BK476.out) hb)
          have n6_ := Aside0.mk (below_step z4_0 hb)
          clear HO468
          clear HO474
          clear HO484
          clear HO491
          clear BK475
          clear BK476
          clear HB
          have HO468 := n0_
          have HO474 := n1_
          have HO484 := n2_
          have HO491 := n3_
          have BK475 := n4_
          have BK476 := n5_
          have HB := n6_
          clear n0_ n1_ n2_ n3_ n4_ n5_ n6_
          (try clear hb)
          (try clear hb2)
          (try clear hk)
          (try clear hi)
          refine hK.out _ _ ⟨(bC_ BK475.out 0).trans rfl, (bC_ BK475.out 1).trans rfl, (bC_ BK475.out 2).trans rfl, (bC_ BK475.out 3).trans rfl, (bC_ BK476.out 0).trans rfl, (bC_ BK476.out 1).trans rfl, (bC_ BK476.out 2).trans rfl, (bC_ BK476.out 3).trans rfl⟩ (fun hHeld => ?_)
          clear hK K
          refine norm_ (a' := ?_) ?_ ?_
          rotate_left
          · show Act.put _ (some 32) _ = _
            simp only [Act.put, List.setIfInBounds_toArray, List.set_cons_zero, List.set_cons_succ, i64_w, i32_w]
            rfl
          refine pure_ (i := 12) (N := some 34) (v := ?_) (a' := ?_) #[true, true, true, true, true, true, true, true, true, true, true, true, true, false, false, false, false, false, false, false, false, false, false] rfl rfl (any_of HT_.out z4_7) (fun _ _ _ h => h) (Or.inl ⟨by rfl, ?_⟩) ?_ ?_
          rotate_left
          · intro w'
            go_simp
            with_reducible rfl
          rotate_left
          · simp only [Act.put, List.setIfInBounds_toArray, List.set_cons_zero, List.set_cons_succ, i64_w, i32_w]
            rfl
          refine pure_ (i := 13) (N := some 35) (v := ?_) (a' := ?_) #[true, true, true, true, true, true, true, true, true, true, true, true, true, true, false, false, false, false, false, false, false, false, false] rfl rfl (any_of HT_.out z4_7) (fun _ _ _ h => h) (Or.inl ⟨by rfl, ?_⟩) ?_ ?_
          rotate_left
          · intro w'
            go_simp
            with_reducible rfl
          rotate_left
          · simp only [Act.put, List.setIfInBounds_toArray, List.set_cons_zero, List.set_cons_succ, i64_w, i32_w]
            rfl
          refine pure_ (i := 14) (N := some 36) (v := ?_) (a' := ?_) #[true, true, true, true, true, true, true, true, true, true, true, true, true, true, true, false, false, false, false, false, false, false, false] rfl rfl (any_of HT_.out z4_7) (fun _ _ _ h => h) (Or.inl ⟨by rfl, ?_⟩) ?_ ?_
          rotate_left
          · intro w'
            go_simp
            with_reducible rfl
          rotate_left
          · simp only [Act.put, List.setIfInBounds_toArray, List.set_cons_zero, List.set_cons_succ, i64_w, i32_w]
            rfl
          refine take_ (i := 15) (N := some 37) (v := ?_) (a' := ?_) #[true, true, true, true, true, true, true, true, true, true, true, true, true, true, true, true, false, false, false, false, false, false, false] rfl rfl (take_ofW HT_.out HW_.out z4_7) (fun _ _ _ h => h) (Or.inl ⟨by rfl, ?_⟩) hHeld ?_ ?_
          rotate_left
          · rintro w' ⟨s0, s1, s2, s3, s4, s5, s6, s7⟩
            go_simp
            with_reducible rfl
          rotate_left
          · simp only [Act.put, List.setIfInBounds_toArray, List.set_cons_zero, List.set_cons_succ, i64_w, i32_w]
            rfl
          refine take_ (i := 18) (N := some 40) (v := ?_) (a' := ?_) #[true, true, true, true, true, true, true, true, true, true, true, true, true, true, true, true, false, false, true, false, false, false, false] rfl rfl (take_ofW HT_.out HW_.out z4_7) (fun _ _ _ h => h) (Or.inl ⟨by rfl, ?_⟩) hHeld ?_ ?_
          rotate_left
          · rintro w' ⟨s0, s1, s2, s3, s4, s5, s6, s7⟩
            go_simp
            with_reducible rfl
          rotate_left
          · simp only [Act.put, List.setIfInBounds_toArray, List.set_cons_zero, List.set_cons_succ, i64_w, i32_w]
            rfl
          refine one_ (i := 16) (N := some 38) #[true, true, true, true, true, true, true, true, true, true, true, true, true, true, true, true, true, false, true, false, false, false, false] rfl rfl (one_of HT_.out z4_7) (by decide) (fun K hK => ?_)
          refine goes_ Try.func19 z4_7 rfl #[.agg #[.int .i64 t463, .int .i64 t464, .int .i64 t465, .slice Ao13 t466.length co13]] (by rfl) rfl rfl z4_1 ?_
          with_reducible refine (impl_CondNot.calls k t463 t464 t465 _ _ t466 t493 t494 t495 t496 _ ?side1 ?side2 A26.out).mono ?_
          (case side1 => repeat (first | exact (Kd.S_reads' HO468.out).2.2 | (with_reducible refine Kd.C_alloc ?_ _) | (with_reducible refine Kd.C_drewN ?_ _) | (with_reducible refine Kd.C_drew ?_)))
          (case side2 => exact (Kd.S_reads' HO468.out).2.1)
          rintro e w36 ⟨v497, rfl, ho0, hb⟩
          refine ⟨_, rfl, ?_⟩
          have n0_ := Aside0.mk (Kd.S_elder' z4_3 (Kd.S_base ho0) hb)
          have n1_ := Aside0.mk (Kd.S_elder' z4_2 (Kd.S_base ho0) hb)
          have n2_ := Aside0.mk (Kd.S_elder' z4_6 (Kd.S_base ho0) hb)
          have n3_ := Aside0.mk (Kd.S_elder' z4_10 (Kd.S_base ho0) hb)
          have n4_ := Aside0.mk (Kd.S_lower (Kd.S_newB (Kd.S_newB (Kd.S_new' (Kd.S_new' (Kd.S_new' (Kd.S_new' ho0 (Kd.S_lt z4_3)) (Kd.S_lt z4_2)) (Kd.S_lt z4_6)) (Kd.S_lt z4_10)) (g := gb475) (o := .cells #[.int .i64 t463, .int .i64 t464, .int .i64 t465, .slice Ao13 t466.length co13] 29 (0, 0)) (pB4_ BK475.out)) (g := gb476) (o := .cells #[.int .i64 t469, .int .i64 t470, .int .i64 t471, .slice Ao15 t472.length co15] 29 (0, 0)) (pB4_ BK476.out)) (below_size z4_0))
          have n5_ := Aside0.mk (blk_below (g := gb475) (o := .cells #[.int .i64 t463, .int .i64 t464, .int .i64 t465, .slice Ao13 t466.length co13] 29 (0, 0)) (pB4_ BK475.out) hb)
          have n6_ := Aside0.mk (blk_below (g := gb476) (o := .cells #[.int .i64 t469, .int .i64 t470, .int .i64 t471, .slice Ao15 t472.length co15] 29 (0, 0)) (pB4_ BK476.out) hb)
          have n7_ := Aside0.mk (below_step z4_0 hb)
          clear HO468
          clear HO474
          clear HO484
          clear HO491
          clear BK475
          clear BK476
          clear HB
          have HO468 := n0_
          have HO474 := n1_
          have HO484 := n2_
          have HO491 := n3_
          have HO498 := n4_
          have BK475 := n5_
          have BK476 := n6_
          have HB := n7_
          clear n0_ n1_ n2_ n3_ n4_ n5_ n6_ n7_
          (try clear hb)
          (try clear hb2)
          (try clear hk)
          (try clear hi)
          (try clear ho0)
          obtain ⟨Ao37, co37, eo37⟩ := Kd.S_slice HO498.out
          (first | subst eo37 | (injection eo37 with f1_ f2_ f3_; have f4_ := f1_.symm; have f5_ := f3_.symm; clear f1_ f2_ f3_; subst f4_; subst f5_))
          refine hK.out _ _ ⟨(bC_ BK475.out 0).trans rfl, (bC_ BK475.out 1).trans rfl, (bC_ BK475.out 2).trans rfl, (bC_ BK475.out 3).trans rfl, (bC_ BK476.out 0).trans rfl, (bC_ BK476.out 1).trans rfl, (bC_ BK476.out 2).trans rfl, (bC_ BK476.out 3).trans rfl⟩ (fun hHeld => ?_)
          clear hK K
          refine norm_ (a' := ?_) ?_ ?_
          rotate_left
          · show Act.put _ (some 38) _ = _
            simp only [Act.put, List.setIfInBounds_toArray, List.set_cons_zero, List.set_cons_succ, i64_w, i32_w]
            rfl
          refine one_ (i := 17) (N := some 39) #[true, true, true, true, true, true, true, true, true, true, true, true, true, true, true, true, true, true, true, false, false, false, false] rfl rfl (one_of HT_.out z4_7) (by decide) (fun K hK => ?_)
          refine goes_ Try.func16 z4_7 rfl #[.agg #[.int .i64 t493, .int .i64 t494, .int .i64 t495, .slice Ao37 t496.length co37]] (by rfl) rfl rfl z4_1 ?_
          with_reducible refine (impl_SizeOf.calls k t493 t494 t495 _ _ t496 t499 _ ?side1 ?side2 A27.out).mono ?_
          (case side1 => repeat (first | exact (Kd.S_reads' HO498.out).2.2 | (with_reducible refine Kd.C_alloc ?_ _) | (with_reducible refine Kd.C_drewN ?_ _) | (with_reducible refine Kd.C_drew ?_)))
          (case side2 => exact (Kd.S_reads' HO498.out).2.1)
          rintro e w38 ⟨rfl, hb⟩
          refine ⟨_, rfl, ?_⟩
          have n0_ := Aside0.mk (Kd.S_below z4_3 hb)
          have n1_ := Aside0.mk (Kd.S_below z4_2 hb)
          have n2_ := Aside0.mk (Kd.S_below z4_6 hb)
          have n3_ := Aside0.mk (Kd.S_below z4_10 hb)
          have n4_ := Aside0.mk (Kd.S_below (by (with_reducible repeat (first | apply Kd.S_alloc | apply Kd.S_drewN | apply Kd.S_drew)); exact HO498.out) hb)
          have n5_ := Aside0.mk (blk_below (g := gb475) (o := .cells #[.int .i64 t463, .int .i64 t464, .int .i64 t465, .slice Ao13 t466.length co13] 29 (0, 0)) (pB4_ BK475.out) hb)
          have n6_ := Aside0.mk (blk_below (g := gb476) (o := .cells #[.int .i64 t469, .int .i64 t470, .int .i64 t471, .slice Ao15 t472.length co15] 29 (0, 0)) (pB4_ BK476.out) hb)
          have n7_ := Aside0.mk (below_step z4_0 hb)
          clear HO468
          clear HO474
          clear HO484
          clear HO491
          clear HO498
          clear BK475
          clear BK476
          clear HB
          have HO468 := n0_
          have HO474 := n1_
          have HO484 := n2_
          have HO491 := n3_
          have HO498 := n4_
          have BK475 := n5_
          have BK476 := n6_
          have HB := n7_
          clear n0_ n1_ n2_ n3_ n4_ n5_ n6_ n7_
          (try clear hb)
          (try clear hb2)
          (try clear hk)
          (try clear hi)
          refine hK.out _ _ ⟨(bC_ BK475.out 0).trans rfl, (bC_ BK475.out 1).trans rfl, (bC_ BK475.out 2).trans rfl, (bC_ BK475.out 3).trans rfl, (bC_ BK476.out 0).trans rfl, (bC_ BK476.out 1).trans rfl, (bC_ BK476.out 2).trans rfl, (bC_ BK476.out 3).trans rfl⟩ (fun hHeld => ?_)
          clear hK K
          refine norm_ (a' := ?_) ?_ ?_
          rotate_left
          · show Act.put _ (some 39) _ = _
            simp only [Act.put, List.setIfInBounds_toArray, List.set_cons_zero, List.set_cons_succ, i64_w, i32_w]
            rfl
          refine one_ (i := 19) (N := some 41) #[true, true, true, true, true, true, true, true, true, true, true, true, true, true, true, true, true, true, true, true, false, false, false] rfl rfl (one_of HT_.out z4_7) (by decide) (fun K hK => ?_)
          refine goes_ Try.func16 z4_7 rfl #[.agg #[.int .i64 t463, .int .i64 t464, .int .i64 t465, .slice Ao13 t466.length co13]] (by rfl) rfl rfl z4_1 ?_
          with_reducible refine (impl_SizeOf.calls k t463 t464 t465 _ _ t466 t500 _ ?side1 ?side2 A28.out).mono ?_
          (case side1 => repeat (first | exact (Kd.S_reads' HO468.out).2.2 | (with_reducible refine Kd.C_alloc ?_ _) | (with_reducible refine Kd.C_drewN ?_ _) | (with_reducible refine Kd.C_drew ?_)))
          (case side2 => exact (Kd.S_reads' HO468.out).2.1)
          rintro e w39 ⟨rfl, hb⟩
          refine ⟨_, rfl, ?_⟩
          have n0_ := Aside0.mk (Kd.S_below z4_3 hb)
          have n1_ := Aside0.mk (Kd.S_below z4_2 hb)
          have n2_ := Aside0.mk (Kd.S_below z4_6 hb)
          have n3_ := Aside0.mk (Kd.S_below z4_10 hb)
          have n4_ := Aside0.mk (Kd.S_below (by (with_reducible repeat (first | apply Kd.S_alloc | apply Kd.S_drewN | apply Kd.S_drew)); exact HO498.out) hb)
          have n5_ := Aside0.mk (blk_below (g := gb475) (o := .cells #[.int .i64 t463, .int .i64 t464, .int .i64 t465, .slice Ao13 t466.length co13] 29 (0, 0)) (pB4_ BK475.out) hb)
          have n6_ := Aside0.mk (blk_below (g := gb476) (o := .cells #[.int .i64 t469, .int .i64 t470, .int .i64 t471, .slice Ao15 t472.length co15] 29 (0, 0)) (pB4_ BK476.out) hb)
          have n7_ := Aside0.mk (below_step z4_0 hb)
          clear HO468
          clear HO474
          clear HO484
          clear HO491
          clear HO498
          clear BK475
          clear BK476
          clear HB
          have HO468 := n0_
          have HO474 := n1_
          have HO484 := n2_
          have HO491 := n3_
          have HO498 := n4_
          have BK475 := n5_
          have BK476 := n6_
          have HB := n7_
          clear n0_ n1_ n2_ n3_ n4_ n5_ n6_ n7_
          (try clear hb)
          (try clear hb2)
          (try clear hk)
          (try clear hi)
          refine hK.out _ _ ⟨(bC_ BK475.out 0).trans rfl, (bC_ BK475.out 1).trans rfl, (bC_ BK475.out 2).trans rfl, (bC_ BK475.out 3).trans rfl, (bC_ BK476.out 0).trans rfl, (bC_ BK476.out 1).trans rfl, (bC_ BK476.out 2).trans rfl, (bC_ BK476.out 3).trans rfl⟩ (fun hHeld => ?_)
          clear hK K
          refine norm_ (a' := ?_) ?_ ?_
          rotate_left
          · show Act.put _ (some 41) _ = _
            simp only [Act.put, List.setIfInBounds_toArray, List.set_cons_zero, List.set_cons_succ, i64_w, i32_w]
            rfl
          refine pure_ (i := 20) (N := some 42) (v := ?_) (a' := ?_) #[true, true, true, true, true, true, true, true, true, true, true, true, true, true, true, true, true, true, true, true, true, false, false] rfl rfl (any_of HT_.out z4_7) (fun _ _ _ h => h) (Or.inl ⟨by rfl, ?_⟩) ?_ ?_
          rotate_left
          · intro w'
            go_simp
            with_reducible rfl
          rotate_left
          · simp only [Act.put, List.setIfInBounds_toArray, List.set_cons_zero, List.set_cons_succ, i64_w, i32_w]
            rfl
          refine pure_ (i := 21) (N := some 43) (v := ?_) (a' := ?_) #[true, true, true, true, true, true, true, true, true, true, true, true, true, true, true, true, true, true, true, true, true, true, false] rfl rfl (any_of HT_.out z4_7) (fun _ _ _ h => h) (Or.inl ⟨by rfl, ?_⟩) ?_ ?_
          rotate_left
          · intro w'
            go_simp
            with_reducible rfl
          rotate_left
          · simp only [Act.put, List.setIfInBounds_toArray, List.set_cons_zero, List.set_cons_succ, i64_w, i32_w]
            rfl
          refine pure_ (i := 22) (N := some 44) (v := ?_) (a' := ?_) #[true, true, true, true, true, true, true, true, true, true, true, true, true, true, true, true, true, true, true, true, true, true, true] rfl rfl (any_of HT_.out z4_7) (fun _ _ _ h => h) (Or.inl ⟨by rfl, ?_⟩) ?_ ?_
          rotate_left
          · intro w'
            go_simp
            with_reducible rfl
          rotate_left
          · simp only [Act.put, List.setIfInBounds_toArray, List.set_cons_zero, List.set_cons_succ, i64_w, i32_w]
            rfl
          refine done_ (done_of HT_.out z4_7) ?_
          try go_wp2
          go_meet
          case rel => exact ⟨_, ((t499 != (wrap64 (t500 + 1)))), z4_12, H', ⟨by first | omega | exact Nat.le_refl _⟩, ⟨by (with_reducible repeat (first | apply Kd.S_alloc | apply Kd.S_drewN | apply Kd.S_drew)); exact Kd.S_mono HO468.out (fun _ hk => ⟨hk.1.1.1.1, ⟨hk.1.1.1.2.1, hk.1.1.1.2.2⟩⟩)⟩, ⟨by (with_reducible repeat (first | apply Kd.S_alloc | apply Kd.S_drewN | apply Kd.S_drew)); exact Kd.S_mono HO474.out (fun _ hk => ⟨hk.1.1.1.1, ⟨hk.1.1.1.2.1, hk.1.1.1.2.2⟩⟩)⟩, ⟨by (with_reducible repeat (first | refine blk_drewN ?_ _ | refine blk_drew ?_ | refine blk_alloc ?_ _)); exact BK475.out⟩, ⟨by (with_reducible repeat (first | refine blk_drewN ?_ _ | refine blk_drew ?_ | refine blk_alloc ?_ _)); exact BK476.out⟩, ⟨by repeat (first | (with_reducible first | exact HB.out | apply bA_ | apply bN_ | apply bD_ | refine bS_ ?_ GE475.out | refine bS_ ?_ GE476.out) | exact HB.out)⟩⟩
        · rw [if_neg c25] at H
          have c25b0 : (t492 == (wrap64 ((wrap64 (t477 + t478)) + 1))) = false := beq_eq_false_iff_ne.mpr c25
          have c25b1 : (t492 != (wrap64 ((wrap64 (t477 + t478)) + 1))) = true := bne_iff_ne.mpr c25
          have H' := Aside0.mk H
          clear H
          try go_wp2
          have n0_ := Aside0.mk (Kd.S_drew HO468.out)
          have n1_ := Aside0.mk (Kd.S_drew HO474.out)
          have n2_ := Aside0.mk (blk_drew BK475.out)
          have n3_ := Aside0.mk (blk_drew BK476.out)
          have n4_ := Aside0.mk (bD_ HB.out)
          clear HO468
          clear HO474
          clear BK475
          clear BK476
          clear HB
          have HO468 := n0_
          have HO474 := n1_
          have BK475 := n2_
          have BK476 := n3_
          have HB := n4_
          clear n0_ n1_ n2_ n3_ n4_
          refine start_ (n := 23) (S := fun w' => w'.cell? ⟨gb475, 0, none⟩ = some (.int .i64 t463) ∧ w'.cell? ⟨gb475, 1, none⟩ = some (.int .i64 t464) ∧ w'.cell? ⟨gb475, 2, none⟩ = some (.int .i64 t465) ∧ w'.cell? ⟨gb475, 3, none⟩ = some (.slice Ao13 t466.length co13) ∧ w'.cell? ⟨gb476, 0, none⟩ = some (.int .i64 t469) ∧ w'.cell? ⟨gb476, 1, none⟩ = some (.int .i64 t470) ∧ w'.cell? ⟨gb476, 2, none⟩ = some (.int .i64 t471) ∧ w'.cell? ⟨gb476, 3, none⟩ = some (.slice Ao15 t472.length co15)) (ds := []) #[false, false, false, false, false, false, false, false, false, false, false, false, false, false, false, false, false, false, false, false, false, false, false] z4_7 rfl rfl ⟨(bC_ BK475.out 0).trans rfl, (bC_ BK475.out 1).trans rfl, (bC_ BK475.out 2).trans rfl, (bC_ BK475.out 3).trans rfl, (bC_ BK476.out 0).trans rfl, (bC_ BK476.out 1).trans rfl, (bC_ BK476.out 2).trans rfl, (bC_ BK476.out 3).trans rfl⟩ (fun hHeld => ?_); refine with_tabW laws_FnConditions.tab5 laws_FnConditions.bits5 (fun HT_ HW_ => ?_)
          generalize w19.drew = w40 at HO468 HO474 BK475 BK476 HB hHeld ⊢
          refine pure_ (i := 4) (N := some 26) (v := ?_) (a' := ?_) #[false, false, false, false, true, false, false, false, false, false, false, false, false, false, false, false, false, false, false, false, false, false, false] rfl rfl (any_of HT_.out z4_7) (fun _ _ _ h => h) (Or.inl ⟨by rfl, ?_⟩) ?_ ?_
          rotate_left
          · intro w'
            go_simp
            with_reducible rfl
          rotate_left
          · simp only [Act.put, List.setIfInBounds_toArray, List.set_cons_zero, List.set_cons_succ, i64_w, i32_w]
            rfl
          refine take_ (i := 0) (N := some 22) (v := ?_) (a' := ?_) #[true, false, false, false, true, false, false, false, false, false, false, false, false, false, false, false, false, false, false, false, false, false, false] rfl rfl (take_ofW HT_.out HW_.out z4_7) (fun _ _ _ h => h) (Or.inl ⟨by rfl, ?_⟩) hHeld ?_ ?_
          rotate_left
          · rintro w' ⟨s0, s1, s2, s3, s4, s5, s6, s7⟩
            go_simp
            with_reducible rfl
          rotate_left
          · simp only [Act.put, List.setIfInBounds_toArray, List.set_cons_zero, List.set_cons_succ, i64_w, i32_w]
            rfl
          refine take_ (i := 1) (N := some 23) (v := ?_) (a' := ?_) #[true, true, false, false, true, false, false, false, false, false, false, false, false, false, false, false, false, false, false, false, false, false, false] rfl rfl (take_ofW HT_.out HW_.out z4_7) (fun _ _ _ h => h) (Or.inl ⟨by rfl, ?_⟩) hHeld ?_ ?_
          rotate_left
          · rintro w' ⟨s0, s1, s2, s3, s4, s5, s6, s7⟩
            go_simp
            with_reducible rfl
          rotate_left
          · simp only [Act.put, List.setIfInBounds_toArray, List.set_cons_zero, List.set_cons_succ, i64_w, i32_w]
            rfl
          refine one_ (i := 2) (N := some 24) #[true, true, true, false, true, false, false, false, false, false, false, false, false, false, false, false, false, false, false, false, false, false, false] rfl rfl (one_of HT_.out z4_7) (by decide) (fun K hK => ?_)
          refine goes_ Try.func17 z4_7 rfl #[.agg #[.int .i64 t463, .int .i64 t464, .int .i64 t465, .slice Ao13 t466.length co13], .agg #[.int .i64 t469, .int .i64 t470, .int .i64 t471, .slice Ao15 t472.length co15]] (by rfl) rfl rfl z4_1 ?_
          with_reducible refine (impl_CondAnd.calls k t463 t464 t465 _ _ t466 t469 t470 t471 _ _ t472 t479 t480 t481 t482 _ ?side1 ?side2 ?side3 ?side4 A20.out).mono ?_
          (case side1 => repeat (first | exact (Kd.S_reads' HO468.out).2.2 | (with_reducible refine Kd.C_alloc ?_ _) | (with_reducible refine Kd.C_drewN ?_ _) | (with_reducible refine Kd.C_drew ?_)))
          (case side2 => exact (Kd.S_reads' HO468.out).2.1)
          (case side3 => repeat (first | exact (Kd.S_reads' HO474.out).2.2 | (with_reducible refine Kd.C_alloc ?_ _) | (with_reducible refine Kd.C_drewN ?_ _) | (with_reducible refine Kd.C_drew ?_)))
          (case side4 => exact (Kd.S_reads' HO474.out).2.1)
          rintro e w41 ⟨v483, rfl, ho0, hb⟩
          refine ⟨_, rfl, ?_⟩
          have n0_ := Aside0.mk (Kd.S_elder' z4_3 (Kd.S_base ho0) hb)
          have n1_ := Aside0.mk (Kd.S_elder' z4_2 (Kd.S_base ho0) hb)
          have n2_ := Aside0.mk (Kd.S_lower (Kd.S_newB (Kd.S_newB (Kd.S_new' (Kd.S_new' ho0 (Kd.S_lt z4_3)) (Kd.S_lt z4_2)) (g := gb475) (o := .cells #[.int .i64 t463, .int .i64 t464, .int .i64 t465, .slice Ao13 t466.length co13] 29 (0, 0)) (pB4_ BK475.out)) (g := gb476) (o := .cells #[.int .i64 t469, .int .i64 t470, .int .i64 t471, .slice Ao15 t472.length co15] 29 (0, 0)) (pB4_ BK476.out)) (below_size z4_0))
          have n3_ := Aside0.mk (blk_below (g := gb475) (o := .cells #[.int .i64 t463, .int .i64 t464, .int .i64 t465, .slice Ao13 t466.length co13] 29 (0, 0)) (pB4_ BK475.out) hb)
          have n4_ := Aside0.mk (blk_below (g := gb476) (o := .cells #[.int .i64 t469, .int .i64 t470, .int .i64 t471, .slice Ao15 t472.length co15] 29 (0, 0)) (pB4_ BK476.out) hb)
          have n5_ := Aside0.mk (below_step z4_0 hb)
          clear HO468
          clear HO474
          clear BK475
          clear BK476
          clear HB
          have HO468 := n0_
          have HO474 := n1_
          have HO484 := n2_
          have BK475 := n3_
          have BK476 := n4_
          have HB := n5_
          clear n0_ n1_ n2_ n3_ n4_ n5_
          (try clear hb)
          (try clear hb2)
          (try clear hk)
          (try clear hi)
          (try clear ho0)
          obtain ⟨Ao42, co42, eo42⟩ := Kd.S_slice HO484.out
          (first | subst eo42 | (injection eo42 with f1_ f2_ f3_; have f4_ := f1_.symm; have f5_ := f3_.symm; clear f1_ f2_ f3_; subst f4_; subst f5_))
          refine hK.out _ _ ⟨(bC_ BK475.out 0).trans rfl, (bC_ BK475.out 1).trans rfl, (bC_ BK475.out 2).trans rfl, (bC_ BK475.out 3).trans rfl, (bC_ BK476.out 0).trans rfl, (bC_ BK476.out 1).trans rfl, (bC_ BK476.out 2).trans rfl, (bC_ BK476.out 3).trans rfl⟩ (fun hHeld => ?_)
          clear hK K
          refine norm_ (a' := ?_) ?_ ?_
          rotate_left
          · show Act.put _ (some 24) _ = _
            simp only [Act.put, List.setIfInBounds_toArray, List.set_cons_zero, List.set_cons_succ, i64_w, i32_w]
            rfl
          refine one_ (i := 3) (N := some 25) #[true, true, true, true, true, false, false, false, false, false, false, false, false, false, false, false, false, false, false, false, false, false, false] rfl rfl (one_of HT_.out z4_7) (by decide) (fun K hK => ?_)
          refine goes_ Try.func16 z4_7 rfl #[.agg #[.int .i64 t479, .int .i64 t480, .int .i64 t481, .slice Ao42 t482.length co42]] (by rfl) rfl rfl z4_1 ?_
          with_reducible refine (impl_SizeOf.calls k t479 t480 t481 _ _ t482 t485 _ ?side1 ?side2 A21.out).mono ?_
          (case side1 => repeat (first | exact (Kd.S_reads' HO484.out).2.2 | (with_reducible refine Kd.C_alloc ?_ _) | (with_reducible refine Kd.C_drewN ?_ _) | (with_reducible refine Kd.C_drew ?_)))
          (case side2 => exact (Kd.S_reads' HO484.out).2.1)
          rintro e w43 ⟨rfl, hb⟩
          refine ⟨_, rfl, ?_⟩
          have n0_ := Aside0.mk (Kd.S_below z4_3 hb)
          have n1_ := Aside0.mk (Kd.S_below z4_2 hb)
          have n2_ := Aside0.mk (Kd.S_below z4_6 hb)
          have n3_ := Aside0.mk (blk_below (g := gb475) (o := .cells #[.int .i64 t463, .int .i64 t464, .int .i64 t465, .slice Ao13 t466.length co13] 29 (0, 0)) (pB4_ BK475.out) hb)
          have n4_ := Aside0.mk (blk_below (g := gb476) (o := .cells #[.int .i64 t469, .int .i64 t470, .int .i64 t471, .slice Ao15 t472.length co15] 29 (0, 0)) (pB4_ BK476.out) hb)
          have n5_ := Aside0.mk (below_step z4_0 hb)
          clear HO468
          clear HO474
          clear HO484
          clear BK475
          clear BK476
          clear HB
          have HO468 := n0_
          have HO474 := n1_
          have HO484 := n2_
          have BK475 := n3_
          have BK476 := n4_
          have HB := n5_
          clear n0_ n1_ n2_ n3_ n4_ n5_
          (try clear hb)
          (try clear hb2)
          (try clear hk)
          (try clear hi)
          refine hK.out _ _ ⟨(bC_ BK475.out 0).trans rfl, (bC_ BK475.out 1).trans rfl, (bC_ BK475.out 2).trans rfl, (bC_ BK475.out 3).trans rfl, (bC_ BK476.out 0).trans rfl, (bC_ BK476.out 1).trans rfl, (bC_ BK476.out 2).trans rfl, (bC_ BK476.out 3).trans rfl⟩ (fun hHeld => ?_)
          clear hK K
          refine norm_ (a' := ?_) ?_ ?_
          rotate_left
          · show Act.put _ (some 25) _ = _
            simp only [Act.put, List.setIfInBounds_toArray, List.set_cons_zero, List.set_cons_succ, i64_w, i32_w]
            rfl
          refine pure_ (i := 5) (N := some 27) (v := ?_) (a' := ?_) #[true, true, true, true, true, true, false, false, false, false, false, false, false, false, false, false, false, false, false, false, false, false, false] rfl rfl (any_of HT_.out z4_7) (fun _ _ _ h => h) (Or.inl ⟨by rfl, ?_⟩) ?_ ?_
          rotate_left
          · intro w'
            go_simp
            with_reducible rfl
          rotate_left
          · simp only [Act.put, List.setIfInBounds_toArray, List.set_cons_zero, List.set_cons_succ, i64_w, i32_w]
            rfl
          refine pure_ (i := 6) (N := some 28) (v := ?_) (a' := ?_) #[true, true, true, true, true, true, true, false, false, false, false, false, false, false, false, false, false, false, false, false, false, false, false] rfl rfl (any_of HT_.out z4_7) (fun _ _ _ h => h) (Or.inl ⟨by rfl, ?_⟩) ?_ ?_
          rotate_left
          · intro w'
            go_simp
            with_reducible rfl
          rotate_left
          · simp only [Act.put, List.setIfInBounds_toArray, List.set_cons_zero, List.set_cons_succ, i64_w, i32_w]
            rfl
          refine pure_ (i := 11) (N := some 33) (v := ?_) (a' := ?_) #[true, true, true, true, true, true, true, false, false, false, false, true, false, false, false, false, false, false, false, false, false, false, false] rfl rfl (any_of HT_.out z4_7) (fun _ _ _ h => h) (Or.inl ⟨by rfl, ?_⟩) ?_ ?_
          rotate_left
          · intro w'
            go_simp
            with_reducible rfl
          rotate_left
          · simp only [Act.put, List.setIfInBounds_toArray, List.set_cons_zero, List.set_cons_succ, i64_w, i32_w]
            rfl
          refine take_ (i := 7) (N := some 29) (v := ?_) (a' := ?_) #[true, true, true, true, true, true, true, true, false, false, false, true, false, false, false, false, false, false, false, false, false, false, false] rfl rfl (take_ofW HT_.out HW_.out z4_7) (fun _ _ _ h => h) (Or.inl ⟨by rfl, ?_⟩) hHeld ?_ ?_
          rotate_left
          · rintro w' ⟨s0, s1, s2, s3, s4, s5, s6, s7⟩
            go_simp
            with_reducible rfl
          rotate_left
          · simp only [Act.put, List.setIfInBounds_toArray, List.set_cons_zero, List.set_cons_succ, i64_w, i32_w]
            rfl
          refine take_ (i := 8) (N := some 30) (v := ?_) (a' := ?_) #[true, true, true, true, true, true, true, true, true, false, false, true, false, false, false, false, false, false, false, false, false, false, false] rfl rfl (take_ofW HT_.out HW_.out z4_7) (fun _ _ _ h => h) (Or.inl ⟨by rfl, ?_⟩) hHeld ?_ ?_
          rotate_left
          · rintro w' ⟨s0, s1, s2, s3, s4, s5, s6, s7⟩
            go_simp
            with_reducible rfl
          rotate_left
          · simp only [Act.put, List.setIfInBounds_toArray, List.set_cons_zero, List.set_cons_succ, i64_w, i32_w]
            rfl
          refine one_ (i := 9) (N := some 31) #[true, true, true, true, true, true, true, true, true, true, false, true, false, false, false, false, false, false, false, false, false, false, false] rfl rfl (one_of HT_.out z4_7) (by decide) (fun K hK => ?_)
          refine goes_ Try.func18 z4_7 rfl #[.agg #[.int .i64 t463, .int .i64 t464, .int .i64 t465, .slice Ao13 t466.length co13], .agg #[.int .i64 t469, .int .i64 t470, .int .i64 t471, .slice Ao15 t472.length co15]] (by rfl) rfl rfl z4_1 ?_
          with_reducible refine (impl_CondOr.calls k t463 t464 t465 _ _ t466 t469 t470 t471 _ _ t472 t486 t487 t488 t489 _ ?side1 ?side2 ?side3 ?side4 A23.out).mono ?_
          (case side1 => repeat (first | exact (Kd.S_reads' HO468.out).2.2 | (with_reducible refine Kd.C_alloc ?_ _) | (with_reducible refine Kd.C_drewN ?_ _) | (with_reducible refine Kd.C_drew ?_)))
          (case side2 => exact (Kd.S_reads' HO468.out).2.1)
          (case side3 => repeat (first | exact (Kd.S_reads' HO474.out).2.2 | (with_reducible refine Kd.C_alloc ?_ _) | (with_reducible refine Kd.C_drewN ?_ _) | (with_reducible refine Kd.C_drew ?_)))
          (case side4 => exact (Kd.S_reads' HO474.out).2.1)
          rintro e w44 ⟨v490, rfl, ho0, hb⟩
          refine ⟨_, rfl, ?_⟩
          have n0_ := Aside0.mk (Kd.S_elder' z4_3 (Kd.S_base ho0) hb)
          have n1_ := Aside0.mk (Kd.S_elder' z4_2 (Kd.S_base ho0) hb)
          have n2_ := Aside0.mk (Kd.S_elder' z4_6 (Kd.S_base ho0) hb)
          have n3_ := Aside0.mk (Kd.S_lower (Kd.S_newB (Kd.S_newB (Kd.S_new' (Kd.S_new' (Kd.S_new' ho0 (Kd.S_lt z4_3)) (Kd.S_lt z4_2)) (Kd.S_lt z4_6)) (g := gb475) (o := .cells #[.int .i64 t463, .int .i64 t464, .int .i64 t465, .slice Ao13 t466.length co13] 29 (0, 0)) (pB4_ BK475.out)) (g := gb476) (o := .cells #[.int .i64 t469, .int .i64 t470, .int .i64 t471, .slice Ao15 t472.length co15] 29 (0, 0)) (pB4_ BK476.out)) (below_size z4_0))
          have n4_ := Aside0.mk (blk_below (g := gb475) (o := .cells #[.int .i64 t463, .int .i64 t464, .int .i64 t465, .slice Ao13 t466.length co13] 29 (0, 0)) (pB4_ BK475.out) hb)
          have n5_ := Aside0.mk (blk_below (g := gb476) (o := .cells #[.int .i64 t469, .int .i64 t470, .int .i64 t471, .slice Ao15 t472.length co15] 29 (0, 0)) (pB4_ BK476.out) hb)
          have n6_ := Aside0.mk (below_step z4_0 hb)
          clear HO468
          clear HO474
          clear HO484
          clear BK475
          clear BK476
          clear HB
          have HO468 := n0_
          have HO474 := n1_
          have HO484 := n2_
          have HO491 := n3_
          have BK475 := n4_
          have BK476 := n5_
          have HB := n6_
          clear n0_ n1_ n2_ n3_ n4_ n5_ n6_
          (try clear hb)
          (try clear hb2)
          (try clear hk)
          (try clear hi)
          (try clear ho0)
          obtain ⟨Ao45, co45, eo45⟩ := Kd.S_slice HO491.out
          (first | subst eo45 | (injection eo45 with f1_ f2_ f3_; have f4_ := f1_.symm; have f5_ := f3_.symm; clear f1_ f2_ f3_; subst f4_; subst f5_))
          refine hK.out _ _ ⟨(bC_ BK475.out 0).trans rfl, (bC_ BK475.out 1).trans rfl, (bC_ BK475.out 2).trans rfl, (bC_ BK475.out 3).trans rfl, (bC_ BK476.out 0).trans rfl, (bC_ BK476.out 1).trans rfl, (bC_ BK476.out 2).trans rfl, (bC_ BK476.out 3).trans rfl⟩ (fun hHeld => ?_)
          clear hK K
          refine norm_ (a' := ?_) ?_ ?_
          rotate_left
          · show Act.put _ (some 31) _ = _
            simp only [Act.put, List.setIfInBounds_toArray, List.set_cons_zero, List.set_cons_succ, i64_w, i32_w]
            rfl
          refine one_ (i := 10) (N := some 32) #[true, true, true, true, true, true, true, true, true, true, true, true, false, false, false, false, false, false, false, false, false, false, false] rfl rfl (one_of HT_.out z4_7) (by decide) (fun K hK => ?_)
          refine goes_ Try.func16 z4_7 rfl #[.agg #[.int .i64 t486, .int .i64 t487, .int .i64 t488, .slice Ao45 t489.length co45]] (by rfl) rfl rfl z4_1 ?_
          with_reducible refine (impl_SizeOf.calls k t486 t487 t488 _ _ t489 t492 _ ?side1 ?side2 A24.out).mono ?_
          (case side1 => repeat (first | exact (Kd.S_reads' HO491.out).2.2 | (with_reducible refine Kd.C_alloc ?_ _) | (with_reducible refine Kd.C_drewN ?_ _) | (with_reducible refine Kd.C_drew ?_)))
          (case side2 => exact (Kd.S_reads' HO491.out).2.1)
          rintro e w46 ⟨rfl, hb⟩
          refine ⟨_, rfl, ?_⟩
          have n0_ := Aside0.mk (Kd.S_below z4_3 hb)
          have n1_ := Aside0.mk (Kd.S_below z4_2 hb)
          have n2_ := Aside0.mk (Kd.S_below z4_6 hb)
          have n3_ := Aside0.mk (Kd.S_below z4_10 hb)
          have n4_ := Aside0.mk (blk_below (g := gb475) (o := .cells #[.int .i64 t463, .int .i64 t464, .int .i64 t465, .slice Ao13 t466.length co13] 29 (0, 0)) (pB4_ BK475.out) hb)
          have n5_ := Aside0.mk (blk_below (g := gb476) (o := .cells #[.int .i64 t469, .int .i64 t470, .int .i64 t471, .slice Ao15 t472.length co15] 29 (0, 0)) (pB4_ BK476.out) hb)
          have n6_ := Aside0.mk (below_step z4_0 hb)
          clear HO468
          clear HO474
          clear HO484
          clear HO491
          clear BK475
          clear BK476
          clear HB
          have HO468 := n0_
          have HO474 := n1_
          have HO484 := n2_
          have HO491 := n3_
          have BK475 := n4_
          have BK476 := n5_
          have HB := n6_
          clear n0_ n1_ n2_ n3_ n4_ n5_ n6_
          (try clear hb)
          (try clear hb2)
          (try clear hk)
          (try clear hi)
          refine hK.out _ _ ⟨(bC_ BK475.out 0).trans rfl, (bC_ BK475.out 1).trans rfl, (bC_ BK475.out 2).trans rfl, (bC_ BK475.out 3).trans rfl, (bC_ BK476.out 0).trans rfl, (bC_ BK476.out 1).trans rfl, (bC_ BK476.out 2).trans rfl, (bC_ BK476.out 3).trans rfl⟩ (fun hHeld => ?_)
          clear hK K
          refine norm_ (a' := ?_) ?_ ?_
          rotate_left
          · show Act.put _ (some 32) _ = _
            simp only [Act.put, List.setIfInBounds_toArray, List.set_cons_zero, List.set_cons_succ, i64_w, i32_w]
            rfl
          refine pure_ (i := 12) (N := some 34) (v := ?_) (a' := ?_) #[true, true, true, true, true, true, true, true, true, true, true, true, true, false, false, false, false, false, false, false, false, false, false] rfl rfl (any_of HT_.out z4_7) (fun _ _ _ h => h) (Or.inl ⟨by rfl, ?_⟩) ?_ ?_
          rotate_left
          · intro w'
            go_simp
            with_reducible rfl
          rotate_left
          · simp only [Act.put, List.setIfInBounds_toArray, List.set_cons_zero, List.set_cons_succ, i64_w, i32_w]
            rfl
          refine pure_ (i := 13) (N := some 35) (v := ?_) (a' := ?_) #[true, true, true, true, true, true, true, true, true, true, true, true, true, true, false, false, false, false, false, false, false, false, false] rfl rfl (any_of HT_.out z4_7) (fun _ _ _ h => h) (Or.inl ⟨by rfl, ?_⟩) ?_ ?_
          rotate_left
          · intro w'
            go_simp
            with_reducible rfl
          rotate_left
          · simp only [Act.put, List.setIfInBounds_toArray, List.set_cons_zero, List.set_cons_succ, i64_w, i32_w]
            rfl
          refine pure_ (i := 14) (N := some 36) (v := ?_) (a' := ?_) #[true, true, true, true, true, true, true, true, true, true, true, true, true, true, true, false, false, false, false, false, false, false, false] rfl rfl (any_of HT_.out z4_7) (fun _ _ _ h => h) (Or.inl ⟨by rfl, ?_⟩) ?_ ?_
          rotate_left
          · intro w'
            go_simp
            with_reducible rfl
          rotate_left
          · simp only [Act.put, List.setIfInBounds_toArray, List.set_cons_zero, List.set_cons_succ, i64_w, i32_w]
            rfl
          refine pure_ (i := 15) (N := some 37) (v := undef) (a' := ?_) #[true, true, true, true, true, true, true, true, true, true, true, true, true, true, true, true, false, false, false, false, false, false, false] rfl rfl (any_of HT_.out z4_7) (fun _ _ _ h => h) (Or.inr ⟨by rfl, rfl⟩) ?_ ?_
          rotate_left
          · simp only [Act.put, List.setIfInBounds_toArray, List.set_cons_zero, List.set_cons_succ, i64_w, i32_w]
            rfl
          refine pure_ (i := 16) (N := some 38) (v := undef) (a' := ?_) #[true, true, true, true, true, true, true, true, true, true, true, true, true, true, true, true, true, false, false, false, false, false, false] rfl rfl (any_of HT_.out z4_7) (fun _ _ _ h => h) (Or.inr ⟨by rfl, rfl⟩) ?_ ?_
          rotate_left
          · simp only [Act.put, List.setIfInBounds_toArray, List.set_cons_zero, List.set_cons_succ, i64_w, i32_w]
            rfl
          refine pure_ (i := 17) (N := some 39) (v := undef) (a' := ?_) #[true, true, true, true, true, true, true, true, true, true, true, true, true, true, true, true, true, true, false, false, false, false, false] rfl rfl (any_of HT_.out z4_7) (fun _ _ _ h => h) (Or.inr ⟨by rfl, rfl⟩) ?_ ?_
          rotate_left
          · simp only [Act.put, List.setIfInBounds_toArray, List.set_cons_zero, List.set_cons_succ, i64_w, i32_w]
            rfl
          refine pure_ (i := 18) (N := some 40) (v := undef) (a' := ?_) #[true, true, true, true, true, true, true, true, true, true, true, true, true, true, true, true, true, true, true, false, false, false, false] rfl rfl (any_of HT_.out z4_7) (fun _ _ _ h => h) (Or.inr ⟨by rfl, rfl⟩) ?_ ?_
          rotate_left
          · simp only [Act.put, List.setIfInBounds_toArray, List.set_cons_zero, List.set_cons_succ, i64_w, i32_w]
            rfl
          refine pure_ (i := 19) (N := some 41) (v := undef) (a' := ?_) #[true, true, true, true, true, true, true, true, true, true, true, true, true, true, true, true, true, true, true, true, false, false, false] rfl rfl (any_of HT_.out z4_7) (fun _ _ _ h => h) (Or.inr ⟨by rfl, rfl⟩) ?_ ?_
          rotate_left
          · simp only [Act.put, List.setIfInBounds_toArray, List.set_cons_zero, List.set_cons_succ, i64_w, i32_w]
            rfl
          refine pure_ (i := 20) (N := some 42) (v := undef) (a' := ?_) #[true, true, true, true, true, true, true, true, true, true, true, true, true, true, true, true, true, true, true, true, true, false, false] rfl rfl (any_of HT_.out z4_7) (fun _ _ _ h => h) (Or.inr ⟨by rfl, rfl⟩) ?_ ?_
          rotate_left
          · simp only [Act.put, List.setIfInBounds_toArray, List.set_cons_zero, List.set_cons_succ, i64_w, i32_w]
            rfl
          refine pure_ (i := 21) (N := some 43) (v := undef) (a' := ?_) #[true, true, true, true, true, true, true, true, true, true, true, true, true, true, true, true, true, true, true, true, true, true, false] rfl rfl (any_of HT_.out z4_7) (fun _ _ _ h => h) (Or.inr ⟨by rfl, rfl⟩) ?_ ?_
          rotate_left
          · simp only [Act.put, List.setIfInBounds_toArray, List.set_cons_zero, List.set_cons_succ, i64_w, i32_w]
            rfl
          refine pure_ (i := 22) (N := some 44) (v := ?_) (a' := ?_) #[true, true, true, true, true, true, true, true, true, true, true, true, true, true, true, true, true, true, true, true, true, true, true] rfl rfl (any_of HT_.out z4_7) (fun _ _ _ h => h) (Or.inl ⟨by rfl, ?_⟩) ?_ ?_
          rotate_left
          · intro w'
            go_simp
            with_reducible rfl
          rotate_left
          · simp only [Act.put, List.setIfInBounds_toArray, List.set_cons_zero, List.set_cons_succ, i64_w, i32_w]
            rfl
          refine done_ (done_of HT_.out z4_7) ?_
          try go_wp2
          go_meet
          case rel => exact ⟨_, (true), z4_12, H', ⟨by first | omega | exact Nat.le_refl _⟩, ⟨by (with_reducible repeat (first | apply Kd.S_alloc | apply Kd.S_drewN | apply Kd.S_drew)); exact Kd.S_mono HO468.out (fun _ hk => ⟨hk.1.1.1, ⟨hk.1.1.2.1, hk.1.1.2.2⟩⟩)⟩, ⟨by (with_reducible repeat (first | apply Kd.S_alloc | apply Kd.S_drewN | apply Kd.S_drew)); exact Kd.S_mono HO474.out (fun _ hk => ⟨hk.1.1.1, ⟨hk.1.1.2.1, hk.1.1.2.2⟩⟩)⟩, ⟨by (with_reducible repeat (first | refine blk_drewN ?_ _ | refine blk_drew ?_ | refine blk_alloc ?_ _)); exact BK475.out⟩, ⟨by (with_reducible repeat (first | refine blk_drewN ?_ _ | refine blk_drew ?_ | refine blk_alloc ?_ _)); exact BK476.out⟩, ⟨by repeat (first | (with_reducible first | exact HB.out | apply bA_ | apply bN_ | apply bD_ | refine bS_ ?_ GE475.out | refine bS_ ?_ GE476.out) | exact HB.out)⟩⟩
      · rw [if_neg c22] at H
        have c22b0 : (t485 == (wrap64 ((wrap64 (t477 + t478)) + 1))) = false := beq_eq_false_iff_ne.mpr c22
        have c22b1 : (t485 != (wrap64 ((wrap64 (t477 + t478)) + 1))) = true := bne_iff_ne.mpr c22
        (first | rw [c22b0] | (simp only [i64_w, i32_w]; rw [c22b0]) | skip)
        have H' := Aside0.mk H
        clear H
        try go_wp2
        have n0_ := Aside0.mk (Kd.S_drew HO468.out)
        have n1_ := Aside0.mk (Kd.S_drew HO474.out)
        have n2_ := Aside0.mk (blk_drew BK475.out)
        have n3_ := Aside0.mk (blk_drew BK476.out)
        have n4_ := Aside0.mk (bD_ HB.out)
        clear HO468
        clear HO474
        clear BK475
        clear BK476
        clear HB
        have HO468 := n0_
        have HO474 := n1_
        have BK475 := n2_
        have BK476 := n3_
        have HB := n4_
        clear n0_ n1_ n2_ n3_ n4_
        refine start_ (n := 23) (S := fun w' => w'.cell? ⟨gb475, 0, none⟩ = some (.int .i64 t463) ∧ w'.cell? ⟨gb475, 1, none⟩ = some (.int .i64 t464) ∧ w'.cell? ⟨gb475, 2, none⟩ = some (.int .i64 t465) ∧ w'.cell? ⟨gb475, 3, none⟩ = some (.slice Ao13 t466.length co13) ∧ w'.cell? ⟨gb476, 0, none⟩ = some (.int .i64 t469) ∧ w'.cell? ⟨gb476, 1, none⟩ = some (.int .i64 t470) ∧ w'.cell? ⟨gb476, 2, none⟩ = some (.int .i64 t471) ∧ w'.cell? ⟨gb476, 3, none⟩ = some (.slice Ao15 t472.length co15)) (ds := []) #[false, false, false, false, false, false, false, false, false, false, false, false, false, false, false, false, false, false, false, false, false, false, false] z4_7 rfl rfl ⟨(bC_ BK475.out 0).trans rfl, (bC_ BK475.out 1).trans rfl, (bC_ BK475.out 2).trans rfl, (bC_ BK475.out 3).trans rfl, (bC_ BK476.out 0).trans rfl, (bC_ BK476.out 1).trans rfl, (bC_ BK476.out 2).trans rfl, (bC_ BK476.out 3).trans rfl⟩ (fun hHeld => ?_); refine with_tabW laws_FnConditions.tab5 laws_FnConditions.bits5 (fun HT_ HW_ => ?_)
        generalize w19.drew = w47 at HO468 HO474 BK475 BK476 HB hHeld ⊢
        refine pure_ (i := 4) (N := some 26) (v := ?_) (a' := ?_) #[false, false, false, false, true, false, false, false, false, false, false, false, false, false, false, false, false, false, false, false, false, false, false] rfl rfl (any_of HT_.out z4_7) (fun _ _ _ h => h) (Or.inl ⟨by rfl, ?_⟩) ?_ ?_
        rotate_left
        · intro w'
          go_simp
          with_reducible rfl
        rotate_left
        · simp only [Act.put, List.setIfInBounds_toArray, List.set_cons_zero, List.set_cons_succ, i64_w, i32_w]
          rfl
        refine take_ (i := 0) (N := some 22) (v := ?_) (a' := ?_) #[true, false, false, false, true, false, false, false, false, false, false, false, false, false, false, false, false, false, false, false, false, false, false] rfl rfl (take_ofW HT_.out HW_.out z4_7) (fun _ _ _ h => h) (Or.inl ⟨by rfl, ?_⟩) hHeld ?_ ?_
        rotate_left
        · rintro w' ⟨s0, s1, s2, s3, s4, s5, s6, s7⟩
          go_simp
          with_reducible rfl
        rotate_left
        · simp only [Act.put, List.setIfInBounds_toArray, List.set_cons_zero, List.set_cons_succ, i64_w, i32_w]
          rfl
        refine take_ (i := 1) (N := some 23) (v := ?_) (a' := ?_) #[true, true, false, false, true, false, false, false, false, false, false, false, false, false, false, false, false, false, false, false, false, false, false] rfl rfl (take_ofW HT_.out HW_.out z4_7) (fun _ _ _ h => h) (Or.inl ⟨by rfl, ?_⟩) hHeld ?_ ?_
        rotate_left
        · rintro w' ⟨s0, s1, s2, s3, s4, s5, s6, s7⟩
          go_simp
          with_reducible rfl
        rotate_left
        · simp only [Act.put, List.setIfInBounds_toArray, List.set_cons_zero, List.set_cons_succ, i64_w, i32_w]
          rfl
        refine one_ (i := 2) (N := some 24) #[true, true, true, false, true, false, false, false, false, false, false, false, false, false, false, false, false, false, false, false, false, false, false] rfl rfl (one_of HT_.out z4_7) (by decide) (fun K hK => ?_)
        refine goes_ Try.func17 z4_7 rfl #[.agg #[.int .i64 t463, .int .i64 t464, .int .i64 t465, .slice Ao13 t466.length co13], .agg #[.int .i64 t469, .int .i64 t470, .int .i64 t471, .slice Ao15 t472.length co15]] (by rfl) rfl rfl z4_1 ?_
        with_reducible refine (impl_CondAnd.calls k t463 t464 t465 _ _ t466 t469 t470 t471 _ _ t472 t479 t480 t481 t482 _ ?side1 ?side2 ?side3 ?side4 A20.out).mono ?_
        (case side1 => repeat (first | exact (Kd.S_reads' HO468.out).2.2 | (with_reducible refine Kd.C_alloc ?_ _) | (with_reducible refine Kd.C_drewN ?_ _) | (with_reducible refine Kd.C_drew ?_)))
        (case side2 => exact (Kd.S_reads' HO468.out).2.1)
        (case side3 => repeat (first | exact (Kd.S_reads' HO474.out).2.2 | (with_reducible refine Kd.C_alloc ?_ _) | (with_reducible refine Kd.C_drewN ?_ _) | (with_reducible refine Kd.C_drew ?_)))
        (case side4 => exact (Kd.S_reads' HO474.out).2.1)
        rintro e w48 ⟨v483, rfl, ho0, hb⟩
        refine ⟨_, rfl, ?_⟩
        have n0_ := Aside0.mk (Kd.S_elder' z4_3 (Kd.S_base ho0) hb)
        have n1_ := Aside0.mk (Kd.S_elder' z4_2 (Kd.S_base ho0) hb)
        have n2_ := Aside0.mk (Kd.S_lower (Kd.S_newB (Kd.S_newB (Kd.S_new' (Kd.S_new' ho0 (Kd.S_lt z4_3)) (Kd.S_lt z4_2)) (g := gb475) (o := .cells #[.int .i64 t463, .int .i64 t464, .int .i64 t465, .slice Ao13 t466.length co13] 29 (0, 0)) (pB4_ BK475.out)) (g := gb476) (o := .cells #[.int .i64 t469, .int .i64 t470, .int .i64 t471, .slice Ao15 t472.length co15] 29 (0, 0)) (pB4_ BK476.out)) (below_size z4_0))
        have n3_ := Aside0.mk (blk_below (g := gb475) (o := .cells #[.int .i64 t463, .int .i64 t464, .int .i64 t465, .slice Ao13 t466.length co13] 29 (0, 0)) (pB4_ BK475.out) hb)
        have n4_ := Aside0.mk (blk_below (g := gb476) (o := .cells #[.int .i64 t469, .int .i64 t470, .int .i64 t471, .slice Ao15 t472.length co15] 29 (0, 0)) (pB4_ BK476.out) hb)
        have n5_ := Aside0.mk (below_step z4_0 hb)
        clear HO468
        clear HO474
        clear BK475
        clear BK476
        clear HB
        have HO468 := n0_
        have HO474 := n1_
        have HO484 := n2_
        have BK475 := n3_
        have BK476 := n4_
        have HB := n5_
        clear n0_ n1_ n2_ n3_ n4_ n5_
        (try clear hb)
        (try clear hb2)
        (try clear hk)
        (try clear hi)
        (try clear ho0)
        obtain ⟨Ao49, co49, eo49⟩ := Kd.S_slice HO484.out
        (first | subst eo49 | (injection eo49 with f1_ f2_ f3_; have f4_ := f1_.symm; have f5_ := f3_.symm; clear f1_ f2_ f3_; subst f4_; subst f5_))
        refine hK.out _ _ ⟨(bC_ BK475.out 0).trans rfl, (bC_ BK475.out 1).trans rfl, (bC_ BK475.out 2).trans rfl, (bC_ BK475.out 3).trans rfl, (bC_ BK476.out 0).trans rfl, (bC_ BK476.out 1).trans rfl, (bC_ BK476.out 2).trans rfl, (bC_ BK476.out 3).trans rfl⟩ (fun hHeld => ?_)
        clear hK K
        refine norm_ (a' := ?_) ?_ ?_
        rotate_left
        · show Act.put _ (some 24) _ = _
          simp only [Act.put, List.setIfInBounds_toArray, List.set_cons_zero, List.set_cons_succ, i64_w, i32_w]
          rfl
        refine one_ (i := 3) (N := some 25) #[true, true, true, true, true, false, false, false, false, false, false, false, false, false, false, false, false, false, false, false, false, false, false] rfl rfl (one_of HT_.out z4_7) (by decide) (fun K hK => ?_)
        refine goes_ Try.func16 z4_7 rfl #[.agg #[.int .i64 t479, .int .i64 t480, .int .i64 t481, .slice Ao49 t482.length co49]] (by rfl) rfl rfl z4_1 ?_
        with_reducible refine (impl_SizeOf.calls k t479 t480 t481 _ _ t482 t485 _ ?side1 ?side2 A21.out).mono ?_
        (case side1 => repeat (first | exact (Kd.S_reads' HO484.out).2.2 | (with_reducible refine Kd.C_alloc ?_ _) | (with_reducible refine Kd.C_drewN ?_ _) | (with_reducible refine Kd.C_drew ?_)))
        (case side2 => exact (Kd.S_reads' HO484.out).2.1)
        rintro e w50 ⟨rfl, hb⟩
        refine ⟨_, rfl, ?_⟩
        have n0_ := Aside0.mk (Kd.S_below z4_3 hb)
        have n1_ := Aside0.mk (Kd.S_below z4_2 hb)
        have n2_ := Aside0.mk (Kd.S_below z4_6 hb)
        have n3_ := Aside0.mk (blk_below (g := gb475) (o := .cells #[.int .i64 t463, .int .i64 t464, .int .i64 t465, .slice Ao13 t466.length co13] 29 (0, 0)) (pB4_ BK475.out) hb)
        have n4_ := Aside0.mk (blk_below (g := gb476) (o := .cells #[.int .i64 t469, .int .i64 t470, .int .i64 t471, .slice Ao15 t472.length co15] 29 (0, 0)) (pB4_ BK476.out) hb)
        have n5_ := Aside0.mk (below_step z4_0 hb)
        clear HO468
        clear HO474
        clear HO484
        clear BK475
        clear BK476
        clear HB
        have HO468 := n0_
        have HO474 := n1_
        have HO484 := n2_
        have BK475 := n3_
        have BK476 := n4_
        have HB := n5_
        clear n0_ n1_ n2_ n3_ n4_ n5_
        (try clear hb)
        (try clear hb2)
        (try clear hk)
        (try clear hi)
        refine hK.out _ _ ⟨(bC_ BK475.out 0).trans rfl, (bC_ BK475.out 1).trans rfl, (bC_ BK475.out 2).trans rfl, (bC_ BK475.out 3).trans rfl, (bC_ BK476.out 0).trans rfl, (bC_ BK476.out 1).trans rfl, (bC_ BK476.out 2).trans rfl, (bC_ BK476.out 3).trans rfl⟩ (fun hHeld => ?_)
        clear hK K
        refine norm_ (a' := ?_) ?_ ?_
        rotate_left
        · show Act.put _ (some 25) _ = _
          simp only [Act.put, List.setIfInBounds_toArray, List.set_cons_zero, List.set_cons_succ, i64_w, i32_w]
          rfl
        refine pure_ (i := 5) (N := some 27) (v := ?_) (a' := ?_) #[true, true, true, true, true, true, false, false, false, false, false, false, false, false, false, false, false, false, false, false, false, false, false] rfl rfl (any_of HT_.out z4_7) (fun _ _ _ h => h) (Or.inl ⟨by rfl, ?_⟩) ?_ ?_
        rotate_left
        · intro w'
          go_simp
          with_reducible rfl
        rotate_left
        · simp only [Act.put, List.setIfInBounds_toArray, List.set_cons_zero, List.set_cons_succ, i64_w, i32_w]
          rfl
        refine pure_ (i := 6) (N := some 28) (v := ?_) (a' := ?_) #[true, true, true, true, true, true, true, false, false, false, false, false, false, false, false, false, false, false, false, false, false, false, false] rfl rfl (any_of HT_.out z4_7) (fun _ _ _ h => h) (Or.inl ⟨by rfl, ?_⟩) ?_ ?_
        rotate_left
        · intro w'
          go_simp
          with_reducible rfl
        rotate_left
        · simp only [Act.put, List.setIfInBounds_toArray, List.set_cons_zero, List.set_cons_succ, i64_w, i32_w]
          rfl
        refine pure_ (i := 7) (N := some 29) (v := undef) (a' := ?_) #[true, true, true, true, true, true, true, true, false, false, false, false, false, false, false, false, false, false, false, false, false, false, false] rfl rfl (any_of HT_.out z4_7) (fun _ _ _ h => h) (Or.inr ⟨by rfl, rfl⟩) ?_ ?_
        rotate_left
        · simp only [Act.put, List.setIfInBounds_toArray, List.set_cons_zero, List.set_cons_succ, i64_w, i32_w]
          rfl
        refine pure_ (i := 8) (N := some 30) (v := undef) (a' := ?_) #[true, true, true, true, true, true, true, true, true, false, false, false, false, false, false, false, false, false, false, false, false, false, false] rfl rfl (any_of HT_.out z4_7) (fun _ _ _ h => h) (Or.inr ⟨by rfl, rfl⟩) ?_ ?_
        rotate_left
        · simp only [Act.put, List.setIfInBounds_toArray, List.set_cons_zero, List.set_cons_succ, i64_w, i32_w]
          rfl
        refine pure_ (i := 9) (N := some 31) (v := undef) (a' := ?_) #[true, true, true, true, true, true, true, true, true, true, false, false, false, false, false, false, false, false, false, false, false, false, false] rfl rfl (any_of HT_.out z4_7) (fun _ _ _ h => h) (Or.inr ⟨by rfl, rfl⟩) ?_ ?_
        rotate_left
        · simp only [Act.put, List.setIfInBounds_toArray, List.set_cons_zero, List.set_cons_succ, i64_w, i32_w]
          rfl
        refine pure_ (i := 10) (N := some 32) (v := undef) (a' := ?_) #[true, true, true, true, true, true, true, true, true, true, true, false, false, false, false, false, false, false, false, false, false, false, false] rfl rfl (any_of HT_.out z4_7) (fun _ _ _ h => h) (Or.inr ⟨by rfl, rfl⟩) ?_ ?_
        rotate_left
        · simp only [Act.put, List.setIfInBounds_toArray, List.set_cons_zero, List.set_cons_succ, i64_w, i32_w]
          rfl
        refine pure_ (i := 11) (N := some 33) (v := undef) (a' := ?_) #[true, true, true, true, true, true, true, true, true, true, true, true, false, false, false, false, false, false, false, false, false, false, false] rfl rfl (any_of HT_.out z4_7) (fun _ _ _ h => h) (Or.inr ⟨by rfl, rfl⟩) ?_ ?_
        rotate_left
        · simp only [Act.put, List.setIfInBounds_toArray, List.set_cons_zero, List.set_cons_succ, i64_w, i32_w]
          rfl
        refine pure_ (i := 12) (N := some 34) (v := undef) (a' := ?_) #[true, true, true, true, true, true, true, true, true, true, true, true, true, false, false, false, false, false, false, false, false, false, false] rfl rfl (any_of HT_.out z4_7) (fun _ _ _ h => h) (Or.inr ⟨by rfl, rfl⟩) ?_ ?_
        rotate_left
        · simp only [Act.put, List.setIfInBounds_toArray, List.set_cons_zero, List.set_cons_succ, i64_w, i32_w]
          rfl
        refine pure_ (i := 13) (N := some 35) (v := ?_) (a' := ?_) #[true, true, true, true, true, true, true, true, true, true, true, true, true, true, false, false, false, false, false, false, false, false, false] rfl rfl (any_of HT_.out z4_7) (fun _ _ _ h => h) (Or.inl ⟨by rfl, ?_⟩) ?_ ?_
        rotate_left
        · intro w'
          go_simp
          with_reducible rfl
        rotate_left
        · simp only [Act.put, List.setIfInBounds_toArray, List.set_cons_zero, List.set_cons_succ, i64_w, i32_w]
          rfl
        refine pure_ (i := 14) (N := some 36) (v := ?_) (a' := ?_) #[true, true, true, true, true, true, true, true, true, true, true, true, true, true, true, false, false, false, false, false, false, false, false] rfl rfl (any_of HT_.out z4_7) (fun _ _ _ h => h) (Or.inl ⟨by rfl, ?_⟩) ?_ ?_
        rotate_left
        · intro w'
          go_simp
          with_reducible rfl
        rotate_left
        · simp only [Act.put, List.setIfInBounds_toArray, List.set_cons_zero, List.set_cons_succ, i64_w, i32_w]
          rfl
        refine pure_ (i := 15) (N := some 37) (v := undef) (a' := ?_) #[true, true, true, true, true, true, true, true, true, true, true, true, true, true, true, true, false, false, false, false, false, false, false] rfl rfl (any_of HT_.out z4_7) (fun _ _ _ h => h) (Or.inr ⟨by rfl, rfl⟩) ?_ ?_
        rotate_left
        · simp only [Act.put, List.setIfInBounds_toArray, List.set_cons_zero, List.set_cons_succ, i64_w, i32_w]
          rfl
        refine pure_ (i := 16) (N := some 38) (v := undef) (a' := ?_) #[true, true, true, true, true, true, true, true, true, true, true, true, true, true, true, true, true, false, false, false, false, false, false] rfl rfl (any_of HT_.out z4_7) (fun _ _ _ h => h) (Or.inr ⟨by rfl, rfl⟩) ?_ ?_
        rotate_left
        · simp only [Act.put, List.setIfInBounds_toArray, List.set_cons_zero, List.set_cons_succ, i64_w, i32_w]
          rfl
        refine pure_ (i := 17) (N := some 39) (v := undef) (a' := ?_) #[true, true, true, true, true, true, true, true, true, true, true, true, true, true, true, true, true, true, false, false, false, false, false] rfl rfl (any_of HT_.out z4_7) (fun _ _ _ h => h) (Or.inr ⟨by rfl, rfl⟩) ?_ ?_
        rotate_left
        · simp only [Act.put, List.setIfInBounds_toArray, List.set_cons_zero, List.set_cons_succ, i64_w, i32_w]
          rfl
        refine pure_ (i := 18) (N := some 40) (v := undef) (a' := ?_) #[true, true, true, true, true, true, true, true, true, true, true, true, true, true, true, true, true, true, true, false, false, false, false] rfl rfl (any_of HT_.out z4_7) (fun _ _ _ h => h) (Or.inr ⟨by rfl, rfl⟩) ?_ ?_
        rotate_left
        · simp only [Act.put, List.setIfInBounds_toArray, List.set_cons_zero, List.set_cons_succ, i64_w, i32_w]
          rfl
        refine pure_ (i := 19) (N := some 41) (v := undef) (a' := ?_) #[true, true, true, true, true, true, true, true, true, true, true, true, true, true, true, true, true, true, true, true, false, false, false] rfl rfl (any_of HT_.out z4_7) (fun _ _ _ h => h) (Or.inr ⟨by rfl, rfl⟩) ?_ ?_
        rotate_left
        · simp only [Act.put, List.setIfInBounds_toArray, List.set_cons_zero, List.set_cons_succ, i64_w, i32_w]
          rfl
        refine pure_ (i := 20) (N := some 42) (v := undef) (a' := ?_) #[true, true, true, true, true, true, true, true, true, true, true, true, true, true, true, true, true, true, true, true, true, false, false] rfl rfl (any_of HT_.out z4_7) (fun _ _ _ h => h) (Or.inr ⟨by rfl, rfl⟩) ?_ ?_
        rotate_left
        · simp only [Act.put, List.setIfInBounds_toArray, List.set_cons_zero, List.set_cons_succ, i64_w, i32_w]
          rfl
        refine pure_ (i := 21) (N := some 43) (v := undef) (a' := ?_) #[true, true, true, true, true, true, true, true, true, true, true, true, true, true, true, true, true, true, true, true, true, true, false] rfl rfl (any_of HT_.out z4_7) (fun _ _ _ h => h) (Or.inr ⟨by rfl, rfl⟩) ?_ ?_
        rotate_left
        · simp only [Act.put, List.setIfInBounds_toArray, List.set_cons_zero, List.set_cons_succ, i64_w, i32_w]
          rfl
        refine pure_ (i := 22) (N := some 44) (v := ?_) (a' := ?_) #[true, true, true, true, true, true, true, true, true, true, true, true, true, true, true, true, true, true, true, true, true, true, true] rfl rfl (any_of HT_.out z4_7) (fun _ _ _ h => h) (Or.inl ⟨by rfl, ?_⟩) ?_ ?_
        rotate_left
        · intro w'
          go_simp
          with_reducible rfl
        rotate_left
        · simp only [Act.put, List.setIfInBounds_toArray, List.set_cons_zero, List.set_cons_succ, i64_w, i32_w]
          rfl
        refine done_ (done_of HT_.out z4_7) ?_
        try go_wp2
        go_meet
        case rel => exact ⟨_, (true), z4_12, H', ⟨by first | omega | exact Nat.le_refl _⟩, ⟨by (with_reducible repeat (first | apply Kd.S_alloc | apply Kd.S_drewN | apply Kd.S_drew)); exact Kd.S_mono HO468.out (fun _ hk => ⟨hk.1.1, ⟨hk.1.2.1, hk.1.2.2⟩⟩)⟩, ⟨by (with_reducible repeat (first | apply Kd.S_alloc | apply Kd.S_drewN | apply Kd.S_drew)); exact Kd.S_mono HO474.out (fun _ hk => ⟨hk.1.1, ⟨hk.1.2.1, hk.1.2.2⟩⟩)⟩, ⟨by (with_reducible repeat (first | refine blk_drewN ?_ _ | refine blk_drew ?_ | refine blk_alloc ?_ _)); exact BK475.out⟩, ⟨by (with_reducible repeat (first | refine blk_drewN ?_ _ | refine blk_drew ?_ | refine blk_alloc ?_ _)); exact BK476.out⟩, ⟨by repeat (first | (with_reducible first | exact HB.out | apply bA_ | apply bN_ | apply bD_ | refine bS_ ?_ GE475.out | refine bS_ ?_ GE476.out) | exact HB.out)⟩⟩
    case rest =>
      clear HC7
      try clear c1
      try clear c2
      try clear p2
      try clear p6
      try clear c16
      try clear c17
      try clear c18
      try clear c22
      try clear c22b0
      try clear c22b1
      try clear c25
      try clear c25b0
      try clear c25b1
      obtain ⟨kq, x44_6, rfl, HA, HJ6, HO_476003, HO_477003, BK475, BK476, HB⟩ := hcut
      cases kq with
      | zero => exact absurd HA.out (by simp [laws_FnConditions.j0])
      | succ kj6 =>
        have H := HA.out
        clear HA
        simp only [laws_FnConditions.j0] at H
        by_cases c51 : x44_6 = true
        · subst c51
          have H1 : (some false) = some r := by rw [if_pos rfl] at H; exact H
          clear H
          have H := H1
          clear H1
          exact absurd ((Option.some.inj H).trans hr_.out) (by decide)
        · replace c51 := Bool.eq_false_iff.mpr c51
          subst c51
          have H1 : ((impl_CondAnd.f kj6 t463 t464 t465 t466 t469 t470 t471 t472).bind fun bt501 => ((impl_IsCond.f kj6 bt501.1 bt501.2.1 bt501.2.2.1 bt501.2.2.2).bind fun t507 => ((impl_IsCond.f kj6 t463 t464 t465 t466).bind fun t508 => (if t508 = true then ((impl_IsCond.f kj6 t469 t470 t471 t472).bind fun t509 => (if t509 = true then (laws_FnConditions.j1 kj6 (t507 != (decide ((wrap64 ((wrap64 (t477 + t478)) + 1)) ≤ 15))) t463 t464 t465 t466) else (laws_FnConditions.j1 kj6 (t507 != false) t463 t464 t465 t466))) else (laws_FnConditions.j1 kj6 (t507 != false) t463 t464 t465 t466))))) = some r := by rw [if_neg (show ¬ (false = true) by decide)] at H; exact H
          clear H
          have H := H1
          clear H1
          have HC52 := Aside0.mk H
          clear H
          go_upto_region 7 with (fail)
          go_cut [59] (fun v59 wc => ∃ (kq : Nat) (x59_51 : Bool), v59 = .bool x59_51 ∧ Aside0 (laws_FnConditions.j1 kq x59_51 t463 t464 t465 t466 = some r) ∧ Aside0 (kq ≤ kj6) ∧ Aside0 (Kd.S k29 29 wc w.heap.size (fun k_ => some k_ ≠ ((.slice Ao15 t472.length co15) : Value).ownBlock ∧ k_ ≠ gb475 ∧ k_ ≠ gb476) (.slice Ao13 t466.length co13) t466) ∧ Aside0 (Kd.S k29 29 wc w.heap.size (fun k_ => some k_ ≠ ((.slice Ao13 t466.length co13) : Value).ownBlock ∧ k_ ≠ gb475 ∧ k_ ≠ gb476) (.slice Ao15 t472.length co15) t472) ∧ Aside0 (wc.heap[gb475]? = some (.cells #[.int .i64 t463, .int .i64 t464, .int .i64 t465, (.slice Ao13 t466.length co13)] 29 (0, 0))) ∧ Aside0 (wc.heap[gb476]? = some (.cells #[.int .i64 t469, .int .i64 t470, .int .i64 t471, (.slice Ao15 t472.length co15)] 29 (0, 0))) ∧ Aside0 (Below w.heap.size w wc))
          case first =>
            have H := HC52.out
            clear HC52
            replace H := Option.bind_eq_some_iff.mp H
            obtain ⟨⟨t501, t502, t503, t504⟩, A530, H⟩ := H
            replace H : ((impl_IsCond.f kj6 t501 t502 t503 t504).bind fun t507 => ((impl_IsCond.f kj6 t463 t464 t465 t466).bind fun t508 => (if t508 = true then ((impl_IsCond.f kj6 t469 t470 t471 t472).bind fun t509 => (if t509 = true then (laws_FnConditions.j1 kj6 (t507 != (decide ((wrap64 ((wrap64 (t477 + t478)) + 1)) ≤ 15))) t463 t464 t465 t466) else (laws_FnConditions.j1 kj6 (t507 != false) t463 t464 t465 t466))) else (laws_FnConditions.j1 kj6 (t507 != false) t463 t464 t465 t466)))) = some r := H
            have A53 := Aside0.mk A530
            clear A530
            replace H := Option.bind_eq_some_iff.mp H
            obtain ⟨t507, A540, H⟩ := H
            replace H : ((impl_IsCond.f kj6 t463 t464 t465 t466).bind fun t508 => (if t508 = true then ((impl_IsCond.f kj6 t469 t470 t471 t472).bind fun t509 => (if t509 = true then (laws_FnConditions.j1 kj6 (t507 != (decide ((wrap64 ((wrap64 (t477 + t478)) + 1)) ≤ 15))) t463 t464 t465 t466) else (laws_FnConditions.j1 kj6 (t507 != false) t463 t464 t465 t466))) else (laws_FnConditions.j1 kj6 (t507 != false) t463 t464 t465 t466))) = some r := H
            have A54 := Aside0.mk A540
            clear A540
            replace H := Option.bind_eq_some_iff.mp H
            obtain ⟨t508, A550, H⟩ := H
            replace H : (if t508 = true then ((impl_IsCond.f kj6 t469 t470 t471 t472).bind fun t509 => (if t509 = true then (laws_FnConditions.j1 kj6 (t507 != (decide ((wrap64 ((wrap64 (t477 + t478)) + 1)) ≤ 15))) t463 t464 t465 t466) else (laws_FnConditions.j1 kj6 (t507 != false) t463 t464 t465 t466))) else (laws_FnConditions.j1 kj6 (t507 != false) t463 t464 t465 t466)) = some r := H
            have A55 := Aside0.mk A550
            clear A550
            by_cases c56 : t508 = true
            · subst c56
              have H1 : ((impl_IsCond.f kj6 t469 t470 t471 t472).bind fun t509 => (if t509 = true then (laws_FnConditions.j1 kj6 (t507 != (decide ((wrap64 ((wrap64 (t477 + t478)) + 1)) ≤ 15))) t463 t464 t465 t466) else (laws_FnConditions.j1 kj6 (t507 != false) t463 t464 t465 t466))) = some r := by rw [if_pos rfl] at H; exact H
              clear H
              have H := H1
              clear H1
              replace H := Option.bind_eq_some_iff.mp H
              obtain ⟨t509, A570, H⟩ := H
              replace H : (if t509 = true then (laws_FnConditions.j1 kj6 (t507 != (decide ((wrap64 ((wrap64 (t477 + t478)) + 1)) ≤ 15))) t463 t464 t465 t466) else (laws_FnConditions.j1 kj6 (t507 != false) t463 t464 t465 t466)) = some r := H
              have A57 := Aside0.mk A570
              clear A570
              by_cases c58 : t509 = true
              · subst c58
                have H1 : (laws_FnConditions.j1 kj6 (t507 != (decide ((wrap64 ((wrap64 (t477 + t478)) + 1)) ≤ 15))) t463 t464 t465 t466) = some r := by rw [if_pos rfl] at H; exact H
                clear H
                have H := H1
                clear H1
                have H' := Aside0.mk H
                clear H
                try go_wp2
                have n0_ := Aside0.mk (Kd.S_drew HO_476003.out)
                have n1_ := Aside0.mk (Kd.S_drew HO_477003.out)
                have n2_ := Aside0.mk (blk_drew BK475.out)
                have n3_ := Aside0.mk (blk_drew BK476.out)
                have n4_ := Aside0.mk (bD_ HB.out)
                clear HO_476003
                clear HO_477003
                clear BK475
                clear BK476
                clear HB
                have HO_476003 := n0_
                have HO_477003 := n1_
                have BK475 := n2_
                have BK476 := n3_
                have HB := n4_
                clear n0_ n1_ n2_ n3_ n4_
                refine start_ (n := 15) (S := fun w' => w'.cell? ⟨gb475, 0, none⟩ = some (.int .i64 t463) ∧ w'.cell? ⟨gb475, 1, none⟩ = some (.int .i64 t464) ∧ w'.cell? ⟨gb475, 2, none⟩ = some (.int .i64 t465) ∧ w'.cell? ⟨gb475, 3, none⟩ = some (.slice Ao13 t466.length co13) ∧ w'.cell? ⟨gb476, 0, none⟩ = some (.int .i64 t469) ∧ w'.cell? ⟨gb476, 1, none⟩ = some (.int .i64 t470) ∧ w'.cell? ⟨gb476, 2, none⟩ = some (.int .i64 t471) ∧ w'.cell? ⟨gb476, 3, none⟩ = some (.slice Ao15 t472.length co15)) (ds := []) #[false, false, false, false, false, false, false, false, false, false, false, false, false, false, false] z4_7 rfl rfl ⟨(bC_ BK475.out 0).trans rfl, (bC_ BK475.out 1).trans rfl, (bC_ BK475.out 2).trans rfl, (bC_ BK475.out 3).trans rfl, (bC_ BK476.out 0).trans rfl, (bC_ BK476.out 1).trans rfl, (bC_ BK476.out 2).trans rfl, (bC_ BK476.out 3).trans rfl⟩ (fun hHeld => ?_); refine with_tabW laws_FnConditions.tab7 laws_FnConditions.bits7 (fun HT_ HW_ => ?_)
                generalize wc.drew = w59 at HO_476003 HO_477003 BK475 BK476 HB hHeld ⊢
                refine take_ (i := 0) (N := some 45) (v := ?_) (a' := ?_) #[true, false, false, false, false, false, false, false, false, false, false, false, false, false, false] rfl rfl (take_ofW HT_.out HW_.out z4_7) (fun _ _ _ h => h) (Or.inl ⟨by rfl, ?_⟩) hHeld ?_ ?_
                rotate_left
                · rintro w' ⟨s0, s1, s2, s3, s4, s5, s6, s7⟩
                  go_simp
                  with_reducible rfl
                rotate_left
                · simp only [Act.put, List.setIfInBounds_toArray, List.set_cons_zero, List.set_cons_succ, i64_w, i32_w]
                  rfl
                refine take_ (i := 1) (N := some 46) (v := ?_) (a' := ?_) #[true, true, false, false, false, false, false, false, false, false, false, false, false, false, false] rfl rfl (take_ofW HT_.out HW_.out z4_7) (fun _ _ _ h => h) (Or.inl ⟨by rfl, ?_⟩) hHeld ?_ ?_
                rotate_left
                · rintro w' ⟨s0, s1, s2, s3, s4, s5, s6, s7⟩
                  go_simp
                  with_reducible rfl
                rotate_left
                · simp only [Act.put, List.setIfInBounds_toArray, List.set_cons_zero, List.set_cons_succ, i64_w, i32_w]
                  rfl
                refine take_ (i := 4) (N := some 49) (v := ?_) (a' := ?_) #[true, true, false, false, true, false, false, false, false, false, false, false, false, false, false] rfl rfl (take_ofW HT_.out HW_.out z4_7) (fun _ _ _ h => h) (Or.inl ⟨by rfl, ?_⟩) hHeld ?_ ?_
                rotate_left
                · rintro w' ⟨s0, s1, s2, s3, s4, s5, s6, s7⟩
                  go_simp
                  with_reducible rfl
                rotate_left
                · simp only [Act.put, List.setIfInBounds_toArray, List.set_cons_zero, List.set_cons_succ, i64_w, i32_w]
                  rfl
                refine one_ (i := 2) (N := some 47) #[true, true, true, false, true, false, false, false, false, false, false, false, false, false, false] rfl rfl (one_of HT_.out z4_7) (by decide) (fun K hK => ?_)
                refine goes_ Try.func17 z4_7 rfl #[.agg #[.int .i64 t463, .int .i64 t464, .int .i64 t465, .slice Ao13 t466.length co13], .agg #[.int .i64 t469, .int .i64 t470, .int .i64 t471, .slice Ao15 t472.length co15]] (by rfl) rfl rfl z4_1 ?_
                with_reducible refine (impl_CondAnd.calls kj6 t463 t464 t465 _ _ t466 t469 t470 t471 _ _ t472 t501 t502 t503 t504 _ ?side1 ?side2 ?side3 ?side4 A53.out).mono ?_
                (case side1 => repeat (first | exact (Kd.S_reads' HO_476003.out).2.2 | (with_reducible refine Kd.C_alloc ?_ _) | (with_reducible refine Kd.C_drewN ?_ _) | (with_reducible refine Kd.C_drew ?_)))
                (case side2 => exact (Kd.S_reads' HO_476003.out).2.1)
                (case side3 => repeat (first | exact (Kd.S_reads' HO_477003.out).2.2 | (with_reducible refine Kd.C_alloc ?_ _) | (with_reducible refine Kd.C_drewN ?_ _) | (with_reducible refine Kd.C_drew ?_)))
                (case side4 => exact (Kd.S_reads' HO_477003.out).2.1)
                rintro e w60 ⟨v505, rfl, ho0, hb⟩
                refine ⟨_, rfl, ?_⟩
                have n0_ := Aside0.mk (Kd.S_elder' z4_5 (Kd.S_base ho0) hb)
                have n1_ := Aside0.mk (Kd.S_elder' z4_4 (Kd.S_base ho0) hb)
                have n2_ := Aside0.mk (Kd.S_lower (Kd.S_newB (Kd.S_newB (Kd.S_new' (Kd.S_new' ho0 (Kd.S_lt z4_5)) (Kd.S_lt z4_4)) (g := gb475) (o := .cells #[.int .i64 t463, .int .i64 t464, .int .i64 t465, .slice Ao13 t466.length co13] 29 (0, 0)) (pB4_ BK475.out)) (g := gb476) (o := .cells #[.int .i64 t469, .int .i64 t470, .int .i64 t471, .slice Ao15 t472.length co15] 29 (0, 0)) (pB4_ BK476.out)) (below_size z4_0))
                have n3_ := Aside0.mk (blk_below (g := gb475) (o := .cells #[.int .i64 t463, .int .i64 t464, .int .i64 t465, .slice Ao13 t466.length co13] 29 (0, 0)) (pB4_ BK475.out) hb)
                have n4_ := Aside0.mk (blk_below (g := gb476) (o := .cells #[.int .i64 t469, .int .i64 t470, .int .i64 t471, .slice Ao15 t472.length co15] 29 (0, 0)) (pB4_ BK476.out) hb)
                have n5_ := Aside0.mk (below_step z4_0 hb)
                clear HO_476003
                clear HO_477003
                clear BK475
                clear BK476
                clear HB
                have HO_476003 := n0_
                have HO_477003 := n1_
                have HO506 := n2_
                have BK475 := n3_
                have BK476 := n4_
                have HB := n5_
                clear n0_ n1_ n2_ n3_ n4_ n5_
                (try clear hb)
                (try clear hb2)
                (try clear hk)
                (try clear hi)
                (try clear ho0)
                obtain ⟨Ao61, co61, eo61⟩ := Kd.S_slice HO506.out
                (first | subst eo61 | (injection eo61 with f1_ f2_ f3_; have f4_ := f1_.symm; have f5_ := f3_.symm; clear f1_ f2_ f3_; subst f4_; subst f5_))
                refine hK.out _ _ ⟨(bC_ BK475.out 0).trans rfl, (bC_ BK475.out 1).trans rfl, (bC_ BK475.out 2).trans rfl, (bC_ BK475.out 3).trans rfl, (bC_ BK476.out 0).trans rfl, (bC_ BK476.out 1).trans rfl, (bC_ BK476.out 2).trans rfl, (bC_ BK476.out 3).trans rfl⟩ (fun hHeld => ?_)
                clear hK K
                refine norm_ (a' := ?_) ?_ ?_
                rotate_left
                · show Act.put _ (some 47) _ = _
                  simp only [Act.put, List.setIfInBounds_toArray, List.set_cons_zero, List.set_cons_succ, i64_w, i32_w]
                  rfl
                refine one_ (i := 3) (N := some 48) #[true, true, true, true, true, false, false, false, false, false, false, false, false, false, false] rfl rfl (one_of HT_.out z4_7) (by decide) (fun K hK => ?_)
                refine goes_ Try.func20 z4_7 rfl #[.agg #[.int .i64 t501, .int .i64 t502, .int .i64 t503, .slice Ao61 t504.length co61]] (by rfl) rfl rfl z4_1 ?_
                with_reducible refine (impl_IsCond.calls kj6 t501 t502 t503 _ _ t504 t507 _ ?side1 ?side2 A54.out).mono ?_
                (case side1 => repeat (first | exact (Kd.S_reads' HO506.out).2.2 | (with_reducible refine Kd.C_alloc ?_ _) | (with_reducible refine Kd.C_drewN ?_ _) | (with_reducible refine Kd.C_drew ?_)))
                (case side2 => exact (Kd.S_reads' HO506.out).2.1)
                rintro e w62 ⟨rfl, hb⟩
                refine ⟨_, rfl, ?_⟩
                have n0_ := Aside0.mk (Kd.S_below z4_5 hb)
                have n1_ := Aside0.mk (Kd.S_below z4_4 hb)
                have n2_ := Aside0.mk (Kd.S_below z4_8 hb)
                have n3_ := Aside0.mk (blk_below (g := gb475) (o := .cells #[.int .i64 t463, .int .i64 t464, .int .i64 t465, .slice Ao13 t466.length co13] 29 (0, 0)) (pB4_ BK475.out) hb)
                have n4_ := Aside0.mk (blk_below (g := gb476) (o := .cells #[.int .i64 t469, .int .i64 t470, .int .i64 t471, .slice Ao15 t472.length co15] 29 (0, 0)) (pB4_ BK476.out) hb)
                have n5_ := Aside0.mk (below_step z4_0 hb)
                clear HO_476003
                clear HO_477003
                clear HO506
                clear BK475
                clear BK476
                clear HB
                have HO_476003 := n0_
                have HO_477003 := n1_
                have HO506 := n2_
                have BK475 := n3_
                have BK476 := n4_
                have HB := n5_
                clear n0_ n1_ n2_ n3_ n4_ n5_
                (try clear hb)
                (try clear hb2)
                (try clear hk)
                (try clear hi)
                refine hK.out _ _ ⟨(bC_ BK475.out 0).trans rfl, (bC_ BK475.out 1).trans rfl, (bC_ BK475.out 2).trans rfl, (bC_ BK475.out 3).trans rfl, (bC_ BK476.out 0).trans rfl, (bC_ BK476.out 1).trans rfl, (bC_ BK476.out 2).trans rfl, (bC_ BK476.out 3).trans rfl⟩ (fun hHeld => ?_)
                clear hK K
                refine norm_ (a' := ?_) ?_ ?_
                rotate_left
                · show Act.put _ (some 48) _ = _
                  simp only [Act.put, List.setIfInBounds_toArray, List.set_cons_zero, List.set_cons_succ, i64_w, i32_w]
                  rfl
                refine one_ (i := 5) (N := some 50) #[true, true, true, true, true, true, false, false, false, false, false, false, false, false, false] rfl rfl (one_of HT_.out z4_7) (by decide) (fun K hK => ?_)
                refine goes_ Try.func20 z4_7 rfl #[.agg #[.int .i64 t463, .int .i64 t464, .int .i64 t465, .slice Ao13 t466.length co13]] (by rfl) rfl rfl z4_1 ?_
                with_reducible refine (impl_IsCond.calls kj6 t463 t464 t465 _ _ t466 true _ ?side1 ?side2 A55.out).mono ?_
                (case side1 => repeat (first | exact (Kd.S_reads' HO_476003.out).2.2 | (with_reducible refine Kd.C_alloc ?_ _) | (with_reducible refine Kd.C_drewN ?_ _) | (with_reducible refine Kd.C_drew ?_)))
                (case side2 => exact (Kd.S_reads' HO_476003.out).2.1)
                rintro e w63 ⟨rfl, hb⟩
                refine ⟨_, rfl, ?_⟩
                have n0_ := Aside0.mk (Kd.S_below z4_5 hb)
                have n1_ := Aside0.mk (Kd.S_below z4_4 hb)
                have n2_ := Aside0.mk (Kd.S_below z4_8 hb)
                have n3_ := Aside0.mk (blk_below (g := gb475) (o := .cells #[.int .i64 t463, .int .i64 t464, .int .i64 t465, .slice Ao13 t466.length co13] 29 (0, 0)) (pB4_ BK475.out) hb)
                have n4_ := Aside0.mk (blk_below (g := gb476) (o := .cells #[.int .i64 t469, .int .i64 t470, .int .i64 t471, .slice Ao15 t472.length co15] 29 (0, 0)) (pB4_ BK476.out) hb)
                have n5_ := Aside0.mk (below_step z4_0 hb)
                clear HO_476003
                clear HO_477003
                clear HO506
                clear BK475
                clear BK476
                clear HB
                have HO_476003 := n0_
                have HO_477003 := n1_
                have HO506 := n2_
                have BK475 := n3_
                have BK476 := n4_
                have HB := n5_
                clear n0_ n1_ n2_ n3_ n4_ n5_
                (try clear hb)
                (try clear hb2)
                (try clear hk)
                (try clear hi)
                refine hK.out _ _ ⟨(bC_ BK475.out 0).trans rfl, (bC_ BK475.out 1).trans rfl, (bC_ BK475.out 2).trans rfl, (bC_ BK475.out 3).trans rfl, (bC_ BK476.out 0).trans rfl, (bC_ BK476.out 1).trans rfl, (bC_ BK476.out 2).trans rfl, (bC_ BK476.out 3).trans rfl⟩ (fun hHeld => ?_)
                clear hK K
                refine norm_ (a' := ?_) ?_ ?_
                rotate_left
                · show Act.put _ (some 50) _ = _
                  simp only [Act.put, List.setIfInBounds_toArray, List.set_cons_zero, List.set_cons_succ, i64_w, i32_w]
                  rfl
                refine pure_ (i := 6) (N := some 51) (v := ?_) (a' := ?_) #[true, true, true, true, true, true, true, false, false, false, false, false, false, false, false] rfl rfl (any_of HT_.out z4_7) (fun _ _ _ h => h) (Or.inl ⟨by rfl, ?_⟩) ?_ ?_
                rotate_left
                · intro w'
                  go_simp
                  with_reducible rfl
                rotate_left
                · simp only [Act.put, List.setIfInBounds_toArray, List.set_cons_zero, List.set_cons_succ, i64_w, i32_w]
                  rfl
                refine take_ (i := 7) (N := some 52) (v := ?_) (a' := ?_) #[true, true, true, true, true, true, true, true, false, false, false, false, false, false, false] rfl rfl (take_ofW HT_.out HW_.out z4_7) (fun _ _ _ h => h) (Or.inl ⟨by rfl, ?_⟩) hHeld ?_ ?_
                rotate_left
                · rintro w' ⟨s0, s1, s2, s3, s4, s5, s6, s7⟩
                  go_simp
                  with_reducible rfl
                rotate_left
                · simp only [Act.put, List.setIfInBounds_toArray, List.set_cons_zero, List.set_cons_succ, i64_w, i32_w]
                  rfl
                refine one_ (i := 8) (N := some 53) #[true, true, true, true, true, true, true, true, true, false, false, false, false, false, false] rfl rfl (one_of HT_.out z4_7) (by decide) (fun K hK => ?_)
                refine goes_ Try.func20 z4_7 rfl #[.agg #[.int .i64 t469, .int .i64 t470, .int .i64 t471, .slice Ao15 t472.length co15]] (by rfl) rfl rfl z4_1 ?_
                with_reducible refine (impl_IsCond.calls kj6 t469 t470 t471 _ _ t472 true _ ?side1 ?side2 A57.out).mono ?_
                (case side1 => repeat (first | exact (Kd.S_reads' HO_477003.out).2.2 | (with_reducible refine Kd.C_alloc ?_ _) | (with_reducible refine Kd.C_drewN ?_ _) | (with_reducible refine Kd.C_drew ?_)))
                (case side2 => exact (Kd.S_reads' HO_477003.out).2.1)
                rintro e w64 ⟨rfl, hb⟩
                refine ⟨_, rfl, ?_⟩
                have n0_ := Aside0.mk (Kd.S_below z4_5 hb)
                have n1_ := Aside0.mk (Kd.S_below z4_4 hb)
                have n2_ := Aside0.mk (Kd.S_below z4_8 hb)
                have n3_ := Aside0.mk (blk_below (g := gb475) (o := .cells #[.int .i64 t463, .int .i64 t464, .int .i64 t465, .slice Ao13 t466.length co13] 29 (0, 0)) (pB4_ BK475.out) hb)
                have n4_ := Aside0.mk (blk_below (g := gb476) (o := .cells #[.int .i64 t469, .int .i64 t470, .int .i64 t471, .slice Ao15 t472.length co15] 29 (0, 0)) (pB4_ BK476.out) hb)
                have n5_ := Aside0.mk (below_step z4_0 hb)
                clear HO_476003
                clear HO_477003
                clear HO506
                clear BK475
                clear BK476
                clear HB
                have HO_476003 := n0_
                have HO_477003 := n1_
                have HO506 := n2_
                have BK475 := n3_
                have BK476 := n4_
                have HB := n5_
                clear n0_ n1_ n2_ n3_ n4_ n5_
                (try clear hb)
                (try clear hb2)
                (try clear hk)
                (try clear hi)
                refine hK.out _ _ ⟨(bC_ BK475.out 0).trans rfl, (bC_ BK475.out 1).trans rfl, (bC_ BK475.out 2).trans rfl, (bC_ BK475.out 3).trans rfl, (bC_ BK476.out 0).trans rfl, (bC_ BK476.out 1).trans rfl, (bC_ BK476.out 2).trans rfl, (bC_ BK476.out 3).trans rfl⟩ (fun hHeld => ?_)
                clear hK K
                refine norm_ (a' := ?_) ?_ ?_
                rotate_left
                · show Act.put _ (some 53) _ = _
                  simp only [Act.put, List.setIfInBounds_toArray, List.set_cons_zero, List.set_cons_succ, i64_w, i32_w]
                  rfl
                refine pure_ (i := 9) (N := some 54) (v := ?_) (a' := ?_) #[true, true, true, true, true, true, true, true, true, true, false, false, false, false, false] rfl rfl (any_of HT_.out z4_7) (fun _ _ _ h => h) (Or.inl ⟨by rfl, ?_⟩) ?_ ?_
                rotate_left
                · intro w'
                  go_simp
                  with_reducible rfl
                rotate_left
                · simp only [Act.put, List.setIfInBounds_toArray, List.set_cons_zero, List.set_cons_succ, i64_w, i32_w]
                  rfl
                refine pure_ (i := 10) (N := some 55) (v := ?_) (a' := ?_) #[true, true, true, true, true, true, true, true, true, true, true, false, false, false, false] rfl rfl (any_of HT_.out z4_7) (fun _ _ _ h => h) (Or.inl ⟨by rfl, ?_⟩) ?_ ?_
                rotate_left
                · intro w'
                  go_simp
                  with_reducible rfl
                rotate_left
                · simp only [Act.put, List.setIfInBounds_toArray, List.set_cons_zero, List.set_cons_succ, i64_w, i32_w]
                  rfl
                refine pure_ (i := 11) (N := some 56) (v := ?_) (a' := ?_) #[true, true, true, true, true, true, true, true, true, true, true, true, false, false, false] rfl rfl (any_of HT_.out z4_7) (fun _ _ _ h => h) (Or.inl ⟨by rfl, ?_⟩) ?_ ?_
                rotate_left
                · intro w'
                  go_simp
                  with_reducible rfl
                rotate_left
                · simp only [Act.put, List.setIfInBounds_toArray, List.set_cons_zero, List.set_cons_succ, i64_w, i32_w]
                  rfl
                refine pure_ (i := 12) (N := some 57) (v := ?_) (a' := ?_) #[true, true, true, true, true, true, true, true, true, true, true, true, true, false, false] rfl rfl (any_of HT_.out z4_7) (fun _ _ _ h => h) (Or.inl ⟨by rfl, ?_⟩) ?_ ?_
                rotate_left
                · intro w'
                  go_simp
                  with_reducible rfl
                rotate_left
                · simp only [Act.put, List.setIfInBounds_toArray, List.set_cons_zero, List.set_cons_succ, i64_w, i32_w]
                  rfl
                refine pure_ (i := 13) (N := some 58) (v := ?_) (a' := ?_) #[true, true, true, true, true, true, true, true, true, true, true, true, true, true, false] rfl rfl (any_of HT_.out z4_7) (fun _ _ _ h => h) (Or.inl ⟨by rfl, ?_⟩) ?_ ?_
                rotate_left
                · intro w'
                  go_simp
                  with_reducible rfl
                rotate_left
                · simp only [Act.put, List.setIfInBounds_toArray, List.set_cons_zero, List.set_cons_succ, i64_w, i32_w]
                  rfl
                refine pure_ (i := 14) (N := some 59) (v := ?_) (a' := ?_) #[true, true, true, true, true, true, true, true, true, true, true, true, true, true, true] rfl rfl (any_of HT_.out z4_7) (fun _ _ _ h => h) (Or.inl ⟨by rfl, ?_⟩) ?_ ?_
                rotate_left
                · intro w'
                  go_simp
                  with_reducible rfl
                rotate_left
                · simp only [Act.put, List.setIfInBounds_toArray, List.set_cons_zero, List.set_cons_succ, i64_w, i32_w]
                  rfl
                refine done_ (done_of HT_.out z4_7) ?_
                try go_wp2
                go_meet
                case rel => exact ⟨_, ((t507 != (decide ((wrap64 ((wrap64 (t477 + t478)) + 1)) ≤ 15)))), z4_12, H', ⟨by have := HJ6.out; first | omega | exact Nat.le_refl _⟩, ⟨by (with_reducible repeat (first | apply Kd.S_alloc | apply Kd.S_drewN | apply Kd.S_drew)); exact Kd.S_mono HO_476003.out (fun _ hk => ⟨hk.1.1, ⟨hk.1.2.1, hk.1.2.2⟩⟩)⟩, ⟨by (with_reducible repeat (first | apply Kd.S_alloc | apply Kd.S_drewN | apply Kd.S_drew)); exact Kd.S_mono HO_477003.out (fun _ hk => ⟨hk.1.1, ⟨hk.1.2.1, hk.1.2.2⟩⟩)⟩, ⟨by (with_reducible repeat (first | refine blk_drewN ?_ _ | refine blk_drew ?_ | refine blk_alloc ?_ _)); exact BK475.out⟩, ⟨by (with_reducible repeat (first | refine blk_drewN ?_ _ | refine blk_drew ?_ | refine blk_alloc ?_ _)); exact BK476.out⟩, ⟨by repeat (first | (with_reducible first | exact HB.out | apply bA_ | apply bN_ | apply bD_ | refine bS_ ?_ GE475.out | refine bS_ ?_ GE476.out) | exact HB.out)⟩⟩
              · replace c58 := Bool.eq_false_iff.mpr c58
                subst c58
                have H1 : (laws_FnConditions.j1 kj6 (t507 != false) t463 t464 t465 t466) = some r := by rw [if_neg (show ¬ (false = true) by decide)] at H; exact H
                clear H
                have H := H1
                clear H1
                have H' := Aside0.mk H
                clear H
                try go_wp2
                have n0_ := Aside0.mk (Kd.S_drew HO_476003.out)
                have n1_ := Aside0.mk (Kd.S_drew HO_477003.out)
                have n2_ := Aside0.mk (blk_drew BK475.out)
                have n3_ := Aside0.mk (blk_drew BK476.out)
                have n4_ := Aside0.mk (bD_ HB.out)
                clear HO_476003
                clear HO_477003
                clear BK475
                clear BK476
                clear HB
                have HO_476003 := n0_
                have HO_477003 := n1_
                have BK475 := n2_
                have BK476 := n3_
                have HB := n4_
                clear n0_ n1_ n2_ n3_ n4_
                refine start_ (n := 15) (S := fun w' => w'.cell? ⟨gb475, 0, none⟩ = some (.int .i64 t463) ∧ w'.cell? ⟨gb475, 1, none⟩ = some (.int .i64 t464) ∧ w'.cell? ⟨gb475, 2, none⟩ = some (.int .i64 t465) ∧ w'.cell? ⟨gb475, 3, none⟩ = some (.slice Ao13 t466.length co13) ∧ w'.cell? ⟨gb476, 0, none⟩ = some (.int .i64 t469) ∧ w'.cell? ⟨gb476, 1, none⟩ = some (.int .i64 t470) ∧ w'.cell? ⟨gb476, 2, none⟩ = some (.int .i64 t471) ∧ w'.cell? ⟨gb476, 3, none⟩ = some (.slice Ao15 t472.length co15)) (ds := []) #[false, false, false, false, false, false, false, false, false, false, false, false, false, false, false] z4_7 rfl rfl ⟨(bC_ BK475.out 0).trans rfl, (bC_ BK475.out 1).trans rfl, (bC_ BK475.out 2).trans rfl, (bC_ BK475.out 3).trans rfl, (bC_ BK476.out 0).trans rfl, (bC_ BK476.out 1).trans rfl, (bC_ BK476.out 2).trans rfl, (bC_ BK476.out 3).trans rfl⟩ (fun hHeld => ?_); refine with_tabW laws_FnConditions.tab7 laws_FnConditions.bits7 (fun HT_ HW_ => ?_)
                generalize wc.drew = w65 at HO_476003 HO_477003 BK475 BK476 HB hHeld ⊢
                refine take_ (i := 0) (N := some 45) (v := ?_) (a' := ?_) #[true, false, false, false, false, false, false, false, false, false, false, false, false, false, false] rfl rfl (take_ofW HT_.out HW_.out z4_7) (fun _ _ _ h => h) (Or.inl ⟨by rfl, ?_⟩) hHeld ?_ ?_
                rotate_left
                · rintro w' ⟨s0, s1, s2, s3, s4, s5, s6, s7⟩
                  go_simp
                  with_reducible rfl
                rotate_left
                · simp only [Act.put, List.setIfInBounds_toArray, List.set_cons_zero, List.set_cons_succ, i64_w, i32_w]
                  rfl
                refine take_ (i := 1) (N := some 46) (v := ?_) (a' := ?_) #[true, true, false, false, false, false, false, false, false, false, false, false, false, false, false] rfl rfl (take_ofW HT_.out HW_.out z4_7) (fun _ _ _ h => h) (Or.inl ⟨by rfl, ?_⟩) hHeld ?_ ?_
                rotate_left
                · rintro w' ⟨s0, s1, s2, s3, s4, s5, s6, s7⟩
                  go_simp
                  with_reducible rfl
                rotate_left
                · simp only [Act.put, List.setIfInBounds_toArray, List.set_cons_zero, List.set_cons_succ, i64_w, i32_w]
                  rfl
                refine take_ (i := 4) (N := some 49) (v := ?_) (a' := ?_) #[true, true, false, false, true, false, false, false, false, false, false, false, false, false, false] rfl rfl (take_ofW HT_.out HW_.out z4_7) (fun _ _ _ h => h) (Or.inl ⟨by rfl, ?_⟩) hHeld ?_ ?_
                rotate_left
                · rintro w' ⟨s0, s1, s2, s3, s4, s5, s6, s7⟩
                  go_simp
                  with_reducible rfl
                rotate_left
                · simp only [Act.put, List.setIfInBounds_toArray, List.set_cons_zero, List.set_cons_succ, i64_w, i32_w]
                  rfl
                refine one_ (i := 2) (N := some 47) #[true, true, true, false, true, false, false, false, false, false, false, false, false, false, false] rfl rfl (one_of HT_.out z4_7) (by decide) (fun K hK => ?_)
                refine goes_ Try.func17 z4_7 rfl #[.agg #[.int .i64 t463, .int .i64 t464, .int .i64 t465, .slice Ao13 t466.length co13], .agg #[.int .i64 t469, .int .i64 t470, .int .i64 t471, .slice Ao15 t472.length co15]] (by rfl) rfl rfl z4_1 ?_
                with_reducible refine (impl_CondAnd.calls kj6 t463 t464 t465 _ _ t466 t469 t470 t471 _ _ t472 t501 t502 t503 t504 _ ?side1 ?side2 ?side3 ?side4 A53.out).mono ?_
                (case side1 => repeat (first | exact (Kd.S_reads' HO_476003.out).2.2 | (with_reducible refine Kd.C_alloc ?_ _) | (with_reducible refine Kd.C_drewN ?_ _) | (with_reducible refine Kd.C_drew ?_)))
                (case side2 => exact (Kd.S_reads' HO_476003.out).2.1)
                (case side3 => repeat (first | exact (Kd.S_reads' HO_477003.out).2.2 | (with_reducible refine Kd.C_alloc ?_ _) | (with_reducible refine Kd.C_drewN ?_ _) | (with_reducible refine Kd.C_drew ?_)))
                (case side4 => exact (Kd.S_reads' HO_477003.out).2.1)
                rintro e w66 ⟨v505, rfl, ho0, hb⟩
                refine ⟨_, rfl, ?_⟩
                have n0_ := Aside0.mk (Kd.S_elder' z4_5 (Kd.S_base ho0) hb)
                have n1_ := Aside0.mk (Kd.S_elder' z4_4 (Kd.S_base ho0) hb)
                have n2_ := Aside0.mk (Kd.S_lower (Kd.S_newB (Kd.S_newB (Kd.S_new' (Kd.S_new' ho0 (Kd.S_lt z4_5)) (Kd.S_lt z4_4)) (g := gb475) (o := .cells #[.int .i64 t463, .int .i64 t464, .int .i64 t465, .slice Ao13 t466.length co13] 29 (0, 0)) (pB4_ BK475.out)) (g := gb476) (o := .cells #[.int .i64 t469, .int .i64 t470, .int .i64 t471, .slice Ao15 t472.length co15] 29 (0, 0)) (pB4_ BK476.out)) (below_size z4_0))
                have n3_ := Aside0.mk (blk_below (g := gb475) (o := .cells #[.int .i64 t463, .int .i64 t464, .int .i64 t465, .slice Ao13 t466.length co13] 29 (0, 0)) (pB4_ BK475.out) hb)
                have n4_ := Aside0.mk (blk_below (g := gb476) (o := .cells #[.int .i64 t469, .int .i64 t470, .int .i64 t471, .slice Ao15 t472.length co15] 29 (0, 0)) (pB4_ BK476.out) hb)
                have n5_ := Aside0.mk (below_step z4_0 hb)
                clear HO_476003
                clear HO_477003
                clear BK475
                clear BK476
                clear HB
                have HO_476003 := n0_
                have HO_477003 := n1_
                have HO506 := n2_
                have BK475 := n3_
                have BK476 := n4_
                have HB := n5_
                clear n0_ n1_ n2_ n3_ n4_ n5_
                (try clear hb)
                (try clear hb2)
                (try clear hk)
                (try clear hi)
                (try clear ho0)
                obtain ⟨Ao67, co67, eo67⟩ := Kd.S_slice HO506.out
                (first | subst eo67 | (injection eo67 with f1_ f2_ f3_; have f4_ := f1_.symm; have f5_ := f3_.symm; clear f1_ f2_ f3_; subst f4_; subst f5_))
                refine hK.out _ _ ⟨(bC_ BK475.out 0).trans rfl, (bC_ BK475.out 1).trans rfl, (bC_ BK475.out 2).trans rfl, (bC_ BK475.out 3).trans rfl, (bC_ BK476.out 0).trans rfl, (bC_ BK476.out 1).trans rfl, (bC_ BK476.out 2).trans rfl, (bC_ BK476.out 3).trans rfl⟩ (fun hHeld => ?_)
                clear hK K
                refine norm_ (a' := ?_) ?_ ?_
                rotate_left
                · show Act.put _ (some 47) _ = _
                  simp only [Act.put, List.setIfInBounds_toArray, List.set_cons_zero, List.set_cons_succ, i64_w, i32_w]
                  rfl
                refine one_ (i := 3) (N := some 48) #[true, true, true, true, true, false, false, false, false, false, false, false, false, false, false] rfl rfl (one_of HT_.out z4_7) (by decide) (fun K hK => ?_)
                refine goes_ Try.func20 z4_7 rfl #[.agg #[.int .i64 t501, .int .i64 t502, .int .i64 t503, .slice Ao67 t504.length co67]] (by rfl) rfl rfl z4_1 ?_
                with_reducible refine (impl_IsCond.calls kj6 t501 t502 t503 _ _ t504 t507 _ ?side1 ?side2 A54.out).mono ?_
                (case side1 => repeat (first | exact (Kd.S_reads' HO506.out).2.2 | (with_reducible refine Kd.C_alloc ?_ _) | (with_reducible refine Kd.C_drewN ?_ _) | (with_reducible refine Kd.C_drew ?_)))
                (case side2 => exact (Kd.S_reads' HO506.out).2.1)
                rintro e w68 ⟨rfl, hb⟩
                refine ⟨_, rfl, ?_⟩
                have n0_ := Aside0.mk (Kd.S_below z4_5 hb)
                have n1_ := Aside0.mk (Kd.S_below z4_4 hb)
                have n2_ := Aside0.mk (Kd.S_below z4_8 hb)
                have n3_ := Aside0.mk (blk_below (g := gb475) (o := .cells #[.int .i64 t463, .int .i64 t464, .int .i64 t465, .slice Ao13 t466.length co13] 29 (0, 0)) (pB4_ BK475.out) hb)
                have n4_ := Aside0.mk (blk_below (g := gb476) (o := .cells #[.int .i64 t469, .int .i64 t470, .int .i64 t471, .slice Ao15 t472.length co15] 29 (0, 0)) (pB4_ BK476.out) hb)
                have n5_ := Aside0.mk (below_step z4_0 hb)
                clear HO_476003
                clear HO_477003
                clear HO506
                clear BK475
                clear BK476
                clear HB
                have HO_476003 := n0_
                have HO_477003 := n1_
                have HO506 := n2_
                have BK475 := n3_
                have BK476 := n4_
                have HB := n5_
                clear n0_ n1_ n2_ n3_ n4_ n5_
                (try clear hb)
                (try clear hb2)
                (try clear hk)
                (try clear hi)
                refine hK.out _ _ ⟨(bC_ BK475.out 0).trans rfl, (bC_ BK475.out 1).trans rfl, (bC_ BK475.out 2).trans rfl, (bC_ BK475.out 3).trans rfl, (bC_ BK476.out 0).trans rfl, (bC_ BK476.out 1).trans rfl, (bC_ BK476.out 2).trans rfl, (bC_ BK476.out 3).trans rfl⟩ (fun hHeld => ?_)
                clear hK K
                refine norm_ (a' := ?_) ?_ ?_
                rotate_left
                · show Act.put _ (some 48) _ = _
                  simp only [Act.put, List.setIfInBounds_toArray, List.set_cons_zero, List.set_cons_succ, i64_w, i32_w]
                  rfl
                refine one_ (i := 5) (N := some 50) #[true, true, true, true, true, true, false, false, false, false, false, false, false, false, false] rfl rfl (one_of HT_.out z4_7) (by decide) (fun K hK => ?_)
                refine goes_ Try.func20 z4_7 rfl #[.agg #[.int .i64 t463, .int .i64 t464, .int .i64 t465, .slice Ao13 t466.length co13]] (by rfl) rfl rfl z4_1 ?_
                with_reducible refine (impl_IsCond.calls kj6 t463 t464 t465 _ _ t466 true _ ?side1 ?side2 A55.out).mono ?_
                (case side1 => repeat (first | exact (Kd.S_reads' HO_476003.out).2.2 | (with_reducible refine Kd.C_alloc ?_ _) | (with_reducible refine Kd.C_drewN ?_ _) | (with_reducible refine Kd.C_drew ?_)))
                (case side2 => exact (Kd.S_reads' HO_476003.out).2.1)
                rintro e w69 ⟨rfl, hb⟩
                refine ⟨_, rfl, ?_⟩
                have n0_ := Aside0.mk (Kd.S_below z4_5 hb)
                have n1_ := Aside0.mk (Kd.S_below z4_4 hb)
                have n2_ := Aside0.mk (Kd.S_below z4_8 hb)
                have n3_ := Aside0.mk (blk_below (g := gb475) (o := .cells #[.int .i64 t463, .int .i64 t464, .int .i64 t465, .slice Ao13 t466.length co13] 29 (0, 0)) (pB4_ BK475.out) hb)
                have n4_ := Aside0.mk (blk_below (g := gb476) (o := .cells #[.int .i64 t469, .int .i64 t470, .int .i64 t471, .slice Ao15 t472.length co15] 29 (0, 0)) (pB4_ BK476.out) hb)
                have n5_ := Aside0.mk (below_step z4_0 hb)
                clear HO_476003
                clear HO_477003
                clear HO506
                clear BK475
                clear BK476
                clear HB
                have HO_476003 := n0_
                have HO_477003 := n1_
                have HO506 := n2_
                have BK475 := n3_
                have BK476 := n4_
                have HB := n5_
                clear n0_ n1_ n2_ n3_ n4_ n5_
                (try clear hb)
                (try clear hb2)
                (try clear hk)
                (try clear hi)
                refine hK.out _ _ ⟨(bC_ BK475.out 0).trans rfl, (bC_ BK475.out 1).trans rfl, (bC_ BK475.out 2).trans rfl, (bC_ BK475.out 3).trans rfl, (bC_ BK476.out 0).trans rfl, (bC_ BK476.out 1).trans rfl, (bC_ BK476.out 2).trans rfl, (bC_ BK476.out 3).trans rfl⟩ (fun hHeld => ?_)
                clear hK K
                refine norm_ (a' := ?_) ?_ ?_
                rotate_left
                · show Act.put _ (some 50) _ = _
                  simp only [Act.put, List.setIfInBounds_toArray, List.set_cons_zero, List.set_cons_succ, i64_w, i32_w]
                  rfl
                refine pure_ (i := 6) (N := some 51) (v := ?_) (a' := ?_) #[true, true, true, true, true, true, true, false, false, false, false, false, false, false, false] rfl rfl (any_of HT_.out z4_7) (fun _ _ _ h => h) (Or.inl ⟨by rfl, ?_⟩) ?_ ?_
                rotate_left
                · intro w'
                  go_simp
                  with_reducible rfl
                rotate_left
                · simp only [Act.put, List.setIfInBounds_toArray, List.set_cons_zero, List.set_cons_succ, i64_w, i32_w]
                  rfl
                refine take_ (i := 7) (N := some 52) (v := ?_) (a' := ?_) #[true, true, true, true, true, true, true, true, false, false, false, false, false, false, false] rfl rfl (take_ofW HT_.out HW_.out z4_7) (fun _ _ _ h => h) (Or.inl ⟨by rfl, ?_⟩) hHeld ?_ ?_
                rotate_left
                · rintro w' ⟨s0, s1, s2, s3, s4, s5, s6, s7⟩
                  go_simp
                  with_reducible rfl
                rotate_left
                · simp only [Act.put, List.setIfInBounds_toArray, List.set_cons_zero, List.set_cons_succ, i64_w, i32_w]
                  rfl
                refine one_ (i := 8) (N := some 53) #[true, true, true, true, true, true, true, true, true, false, false, false, false, false, false] rfl rfl (one_of HT_.out z4_7) (by decide) (fun K hK => ?_)
                refine goes_ Try.func20 z4_7 rfl #[.agg #[.int .i64 t469, .int .i64 t470, .int .i64 t471, .slice Ao15 t472.length co15]] (by rfl) rfl rfl z4_1 ?_
                with_reducible refine (impl_IsCond.calls kj6 t469 t470 t471 _ _ t472 false _ ?side1 ?side2 A57.out).mono ?_
                (case side1 => repeat (first | exact (Kd.S_reads' HO_477003.out).2.2 | (with_reducible refine Kd.C_alloc ?_ _) | (with_reducible refine Kd.C_drewN ?_ _) | (with_reducible refine Kd.C_drew ?_)))
                (case side2 => exact (Kd.S_reads' HO_477003.out).2.1)
                rintro e w70 ⟨rfl, hb⟩
                refine ⟨_, rfl, ?_⟩
                have n0_ := Aside0.mk (Kd.S_below z4_5 hb)
                have n1_ := Aside0.mk (Kd.S_below z4_4 hb)
                have n2_ := Aside0.mk (Kd.S_below z4_8 hb)
                have n3_ := Aside0.mk (blk_below (g := gb475) (o := .cells #[.int .i64 t463, .int .i64 t464, .int .i64 t465, .slice Ao13 t466.length co13] 29 (0, 0)) (pB4_ BK475.out) hb)
                have n4_ := Aside0.mk (blk_below (g := gb476) (o := .cells #[.int .i64 t469, .int .i64 t470, .int .i64 t471, .slice Ao15 t472.length co15] 29 (0, 0)) (pB4_ BK476.out) hb)
                have n5_ := Aside0.mk (below_step z4_0 hb)
                clear HO_476003
                clear HO_477003
                clear HO506
                clear BK475
                clear BK476
                clear HB
                have HO_476003 := n0_
                have HO_477003 := n1_
                have HO506 := n2_
                have BK475 := n3_
                have BK476 := n4_
                have HB := n5_
                clear n0_ n1_ n2_ n3_ n4_ n5_
                (try clear hb)
                (try clear hb2)
                (try clear hk)
                (try clear hi)
                refine hK.out _ _ ⟨(bC_ BK475.out 0).trans rfl, (bC_ BK475.out 1).trans rfl, (bC_ BK475.out 2).trans rfl, (bC_ BK475.out 3).trans rfl, (bC_ BK476.out 0).trans rfl, (bC_ BK476.out 1).trans rfl, (bC_ BK476.out 2).trans rfl, (bC_ BK476.out 3).trans rfl⟩ (fun hHeld => ?_)
                clear hK K
                refine norm_ (a' := ?_) ?_ ?_
                rotate_left
                · show Act.put _ (some 53) _ = _
                  simp only [Act.put, List.setIfInBounds_toArray, List.set_cons_zero, List.set_cons_succ, i64_w, i32_w]
                  rfl
                refine pure_ (i := 9) (N := some 54) (v := ?_) (a' := ?_) #[true, true, true, true, true, true, true, true, true, true, false, false, false, false, false] rfl rfl (any_of HT_.out z4_7) (fun _ _ _ h => h) (Or.inl ⟨by rfl, ?_⟩) ?_ ?_
                rotate_left
                · intro w'
                  go_simp
                  with_reducible rfl
                rotate_left
                · simp only [Act.put, List.setIfInBounds_toArray, List.set_cons_zero, List.set_cons_succ, i64_w, i32_w]
                  rfl
                refine pure_ (i := 10) (N := some 55) (v := ?_) (a' := ?_) #[true, true, true, true, true, true, true, true, true, true, true, false, false, false, false] rfl rfl (any_of HT_.out z4_7) (fun _ _ _ h => h) (Or.inl ⟨by rfl, ?_⟩) ?_ ?_
                rotate_left
                · intro w'
                  go_simp
                  with_reducible rfl
                rotate_left
                · simp only [Act.put, List.setIfInBounds_toArray, List.set_cons_zero, List.set_cons_succ, i64_w, i32_w]
                  rfl
                refine pure_ (i := 11) (N := some 56) (v := undef) (a' := ?_) #[true, true, true, true, true, true, true, true, true, true, true, true, false, false, false] rfl rfl (any_of HT_.out z4_7) (fun _ _ _ h => h) (Or.inr ⟨by rfl, rfl⟩) ?_ ?_
                rotate_left
                · simp only [Act.put, List.setIfInBounds_toArray, List.set_cons_zero, List.set_cons_succ, i64_w, i32_w]
                  rfl
                refine pure_ (i := 12) (N := some 57) (v := undef) (a' := ?_) #[true, true, true, true, true, true, true, true, true, true, true, true, true, false, false] rfl rfl (any_of HT_.out z4_7) (fun _ _ _ h => h) (Or.inr ⟨by rfl, rfl⟩) ?_ ?_
                rotate_left
                · simp only [Act.put, List.setIfInBounds_toArray, List.set_cons_zero, List.set_cons_succ, i64_w, i32_w]
                  rfl
                refine pure_ (i := 13) (N := some 58) (v := ?_) (a' := ?_) #[true, true, true, true, true, true, true, true, true, true, true, true, true, true, false] rfl rfl (any_of HT_.out z4_7) (fun _ _ _ h => h) (Or.inl ⟨by rfl, ?_⟩) ?_ ?_
                rotate_left
                · intro w'
                  go_simp
                  with_reducible rfl
                rotate_left
                · simp only [Act.put, List.setIfInBounds_toArray, List.set_cons_zero, List.set_cons_succ, i64_w, i32_w]
                  rfl
                refine pure_ (i := 14) (N := some 59) (v := ?_) (a' := ?_) #[true, true, true, true, true, true, true, true, true, true, true, true, true, true, true] rfl rfl (any_of HT_.out z4_7) (fun _ _ _ h => h) (Or.inl ⟨by rfl, ?_⟩) ?_ ?_
                rotate_left
                · intro w'
                  go_simp
                  with_reducible rfl
                rotate_left
                · simp only [Act.put, List.setIfInBounds_toArray, List.set_cons_zero, List.set_cons_succ, i64_w, i32_w]
                  rfl
                refine done_ (done_of HT_.out z4_7) ?_
                try go_wp2
                go_meet
                case rel => exact ⟨_, ((t507 != false)), z4_12, H', ⟨by have := HJ6.out; first | omega | exact Nat.le_refl _⟩, ⟨by (with_reducible repeat (first | apply Kd.S_alloc | apply Kd.S_drewN | apply Kd.S_drew)); exact Kd.S_mono HO_476003.out (fun _ hk => ⟨hk.1.1, ⟨hk.1.2.1, hk.1.2.2⟩⟩)⟩, ⟨by (with_reducible repeat (first | apply Kd.S_alloc | apply Kd.S_drewN | apply Kd.S_drew)); exact Kd.S_mono HO_477003.out (fun _ hk => ⟨hk.1.1, ⟨hk.1.2.1, hk.1.2.2⟩⟩)⟩, ⟨by (with_reducible repeat (first | refine blk_drewN ?_ _ | refine blk_drew ?_ | refine blk_alloc ?_ _)); exact BK475.out⟩, ⟨by (with_reducible repeat (first | refine blk_drewN ?_ _ | refine blk_drew ?_ | refine blk_alloc ?_ _)); exact BK476.out⟩, ⟨by repeat (first | (with_reducible first | exact HB.out | apply bA_ | apply bN_ | apply bD_ | refine bS_ ?_ GE475.out | refine bS_ ?_ GE476.out) | exact HB.out)⟩⟩
            · replace c56 := Bool.eq_false_iff.mpr c56
              subst c56
              have H1 : (laws_FnConditions.j1 kj6 (t507 != false) t463 t464 t465 t466) = some r := by rw [if_neg (show ¬ (false = true) by decide)] at H; exact H
              clear H
              have H := H1
              clear H1
              have H' := Aside0.mk H
              clear H
              try go_wp2
              have n0_ := Aside0.mk (Kd.S_drew HO_476003.out)
              have n1_ := Aside0.mk (Kd.S_drew HO_477003.out)
              have n2_ := Aside0.mk (blk_drew BK475.out)
              have n3_ := Aside0.mk (blk_drew BK476.out)
              have n4_ := Aside0.mk (bD_ HB.out)
              clear HO_476003
              clear HO_477003
              clear BK475
              clear BK476
              clear HB
              have HO_476003 := n0_
              have HO_477003 := n1_
              have BK475 := n2_
              have BK476 := n3_
              have HB := n4_
              clear n0_ n1_ n2_ n3_ n4_
              refine start_ (n := 15) (S := fun w' => w'.cell? ⟨gb475, 0, none⟩ = some (.int .i64 t463) ∧ w'.cell? ⟨gb475, 1, none⟩ = some (.int .i64 t464) ∧ w'.cell? ⟨gb475, 2, none⟩ = some (.int .i64 t465) ∧ w'.cell? ⟨gb475, 3, none⟩ = some (.slice Ao13 t466.length co13) ∧ w'.cell? ⟨gb476, 0, none⟩ = some (.int .i64 t469) ∧ w'.cell? ⟨gb476, 1, none⟩ = some (.int .i64 t470) ∧ w'.cell? ⟨gb476, 2, none⟩ = some (.int .i64 t471) ∧ w'.cell? ⟨gb476, 3, none⟩ = some (.slice Ao15 t472.length co15)) (ds := []) #[false, false, false, false, false, false, false, false, false, false, false, false, false, false, false] z4_7 rfl rfl ⟨(bC_ BK475.out 0).trans rfl, (bC_ BK475.out 1).trans rfl, (bC_ BK475.out 2).trans rfl, (bC_ BK475.out 3).trans rfl, (bC_ BK476.out 0).trans rfl, (bC_ BK476.out 1).trans rfl, (bC_ BK476.out 2).trans rfl, (bC_ BK476.out 3).trans rfl⟩ (fun hHeld => ?_); refine with_tabW laws_FnConditions.tab7 laws_FnConditions.bits7 (fun HT_ HW_ => ?_)
              generalize wc.drew = w71 at HO_476003 HO_477003 BK475 BK476 HB hHeld ⊢
              refine take_ (i := 0) (N := some 45) (v := ?_) (a' := ?_) #[true, false, false, false, false, false, false, false, false, false, false, false, false, false, false] rfl rfl (take_ofW HT_.out HW_.out z4_7) (fun _ _ _ h => h) (Or.inl ⟨by rfl, ?_⟩) hHeld ?_ ?_
              rotate_left
              · rintro w' ⟨s0, s1, s2, s3, s4, s5, s6, s7⟩
                go_simp
                with_reducible rfl
              rotate_left
              · simp only [Act.put, List.setIfInBounds_toArray, List.set_cons_zero, List.set_cons_succ, i64_w, i32_w]
                rfl
              refine take_ (i := 1) (N := some 46) (v := ?_) (a' := ?_) #[true, true, false, false, false, false, false, false, false, false, false, false, false, false, false] rfl rfl (take_ofW HT_.out HW_.out z4_7) (fun _ _ _ h => h) (Or.inl ⟨by rfl, ?_⟩) hHeld ?_ ?_
              rotate_left
              · rintro w' ⟨s0, s1, s2, s3, s4, s5, s6, s7⟩
                go_simp
                with_reducible rfl
              rotate_left
              · simp only [Act.put, List.setIfInBounds_toArray, List.set_cons_zero, List.set_cons_succ, i64_w, i32_w]
                rfl
              refine take_ (i := 4) (N := some 49) (v := ?_) (a' := ?_) #[true, true, false, false, true, false, false, false, false, false, false, false, false, false, false] rfl rfl (take_ofW HT_.out HW_.out z4_7) (fun _ _ _ h => h) (Or.inl ⟨by rfl, ?_⟩) hHeld ?_ ?_
              rotate_left
              · rintro w' ⟨s0, s1, s2, s3, s4, s5, s6, s7⟩
                go_simp
                with_reducible rfl
              rotate_left
              · simp only [Act.put, List.setIfInBounds_toArray, List.set_cons_zero, List.set_cons_succ, i64_w, i32_w]
                rfl
              refine one_ (i := 2) (N := some 47) #[true, true, true, false, true, false, false, false, false, false, false, false, false, false, false] rfl rfl (one_of HT_.out z4_7) (by decide) (fun K hK => ?_)
              refine goes_ Try.func17 z4_7 rfl #[.agg #[.int .i64 t463, .int .i64 t464, .int .i64 t465, .slice Ao13 t466.length co13], .agg #[.int .i64 t469, .int .i64 t470, .int .i64 t471, .slice Ao15 t472.length co15]] (by rfl) rfl rfl z4_1 ?_
              with_reducible refine (impl_CondAnd.calls kj6 t463 t464 t465 _ _ t466 t469 t470 t471 _ _ t472 t501 t502 t503 t504 _ ?side1 ?side2 ?side3 ?side4 A53.out).mono ?_
              (case side1 => repeat (first | exact (Kd.S_reads' HO_476003.out).2.2 | (with_reducible refine Kd.C_alloc ?_ _) | (with_reducible refine Kd.C_drewN ?_ _) | (with_reducible refine Kd.C_drew ?_)))
              (case side2 => exact (Kd.S_reads' HO_476003.out).2.1)
              (case side3 => repeat (first | exact (Kd.S_reads' HO_477003.out).2.2 | (with_reducible refine Kd.C_alloc ?_ _) | (with_reducible refine Kd.C_drewN ?_ _) | (with_reducible refine Kd.C_drew ?_)))
              (case side4 => exact (Kd.S_reads' HO_477003.out).2.1)
              rintro e w72 ⟨v505, rfl, ho0, hb⟩
              refine ⟨_, rfl, ?_⟩
              have n0_ := Aside0.mk (Kd.S_elder' z4_5 (Kd.S_base ho0) hb)
              have n1_ := Aside0.mk (Kd.S_elder' z4_4 (Kd.S_base ho0) hb)
              have n2_ := Aside0.mk (Kd.S_lower (Kd.S_newB (Kd.S_newB (Kd.S_new' (Kd.S_new' ho0 (Kd.S_lt z4_5)) (Kd.S_lt z4_4)) (g := gb475) (o := .cells #[.int .i64 t463, .int .i64 t464, .int .i64 t465, .slice Ao13 t466.length co13] 29 (0, 0)) (pB4_ BK475.out)) (g := gb476) (o := .cells #[.int .i64 t469, .int .i64 t470, .int .i64 t471, .slice Ao15 t472.length co15] 29 (0, 0)) (pB4_ BK476.out)) (below_size z4_0))
              have n3_ := Aside0.mk (blk_below (g := gb475) (o := .cells #[.int .i64 t463, .int .i64 t464, .int .i64 t465, .slice Ao13 t466.length co13] 29 (0, 0)) (pB4_ BK475.out) hb)
              have n4_ := Aside0.mk (blk_below (g := gb476) (o := .cells #[.int .i64 t469, .int .i64 t470, .int .i64 t471, .slice Ao15 t472.length co15] 29 (0, 0)) (pB4_ BK476.out) hb)
              have n5_ := Aside0.mk (below_step z4_0 hb)
              clear HO_476003
              clear HO_477003
              clear BK475
              clear BK476
              clear HB
              have HO_476003 := n0_
              have HO_477003 := n1_
              have HO506 := n2_
              have BK475 := n3_
              have BK476 := n4_
              have HB := n5_
              clear n0_ n1_ n2_ n3_ n4_ n5_
              (try clear hb)
              (try clear hb2)
              (try clear hk)
              (try clear hi)
              (try clear ho0)
              obtain ⟨Ao73, co73, eo73⟩ := Kd.S_slice HO506.out
              (first | subst eo73 | (injection eo73 with f1_ f2_ f3_; have f4_ := f1_.symm; have f5_ := f3_.symm; clear f1_ f2_ f3_; subst f4_; subst f5_))
              refine hK.out _ _ ⟨(bC_ BK475.out 0).trans rfl, (bC_ BK475.out 1).trans rfl, (bC_ BK475.out 2).trans rfl, (bC_ BK475.out 3).trans rfl, (bC_ BK476.out 0).trans rfl, (bC_ BK476.out 1).trans rfl, (bC_ BK476.out 2).trans rfl, (bC_ BK476.out 3).trans rfl⟩ (fun hHeld => ?_)
              clear hK K
              refine norm_ (a' := ?_) ?_ ?_
              rotate_left
              · show Act.put _ (some 47) _ = _
                simp only [Act.put, List.setIfInBounds_toArray, List.set_cons_zero, List.set_cons_succ, i64_w, i32_w]
                rfl
              refine one_ (i := 3) (N := some 48) #[true, true, true, true, true, false, false, false, false, false, false, false, false, false, false] rfl rfl (one_of HT_.out z4_7) (by decide) (fun K hK => ?_)
              refine goes_ Try.func20 z4_7 rfl #[.agg #[.int .i64 t501, .int .i64 t502, .int .i64 t503, .slice Ao73 t504.length co73]] (by rfl) rfl rfl z4_1 ?_
              with_reducible refine (impl_IsCond.calls kj6 t501 t502 t503 _ _ t504 t507 _ ?side1 ?side2 A54.out).mono ?_
              (case side1 => repeat (first | exact (Kd.S_reads' HO506.out).2.2 | (with_reducible refine Kd.C_alloc ?_ _) | (with_reducible refine Kd.C_drewN ?_ _) | (with_reducible refine Kd.C_drew ?_)))
              (case side2 => exact (Kd.S_reads' HO506.out).2.1)
              rintro e w74 ⟨rfl, hb⟩
              refine ⟨_, rfl, ?_⟩
              have n0_ := Aside0.mk (Kd.S_below z4_5 hb)
              have n1_ := Aside0.mk (Kd.S_below z4_4 hb)
              have n2_ := Aside0.mk (Kd.S_below z4_8 hb)
              have n3_ := Aside0.mk (blk_below (g := gb475) (o := .cells #[.int .i64 t463, .int .i64 t464, .int .i64 t465, .slice Ao13 t466.length co13] 29 (0, 0)) (pB4_ BK475.out) hb)
              have n4_ := Aside0.mk (blk_below (g := gb476) (o := .cells #[.int .i64 t469, .int .i64 t470, .int .i64 t471, .slice Ao15 t472.length co15] 29 (0, 0)) (pB4_ BK476.out) hb)
              have n5_ := Aside0.mk (below_step z4_0 hb)
              clear HO_476003
              clear HO_477003
              clear HO506
              clear BK475
              clear BK476
              clear HB
              have HO_476003 := n0_
              have HO_477003 := n1_
              have HO506 := n2_
              have BK475 := n3_
              have BK476 := n4_
              have HB := n5_
              clear n0_ n1_ n2_ n3_ n4_ n5_
              (try clear hb)
              (try clear hb2)
              (try clear hk)
              (try clear hi)
              refine hK.out _ _ ⟨(bC_ BK475.out 0).trans rfl, (bC_ BK475.out 1).trans rfl, (bC_ BK475.out 2).trans rfl, (bC_ BK475.out 3).trans rfl, (bC_ BK476.out 0).trans rfl, (bC_ BK476.out 1).trans rfl, (bC_ BK476.out 2).trans rfl, (bC_ BK476.out 3).trans rfl⟩ (fun hHeld => ?_)
              clear hK K
              refine norm_ (a' := ?_) ?_ ?_
              rotate_left
              · show Act.put _ (some 48) _ = _
                simp only [Act.put, List.setIfInBounds_toArray, List.set_cons_zero, List.set_cons_succ, i64_w, i32_w]
                rfl
              refine one_ (i := 5) (N := some 50) #[true, true, true, true, true, true, false, false, false, false, false, false, false, false, false] rfl rfl (one_of HT_.out z4_7) (by decide) (fun K hK => ?_)
              refine goes_ Try.func20 z4_7 rfl #[.agg #[.int .i64 t463, .int .i64 t464, .int .i64 t465, .slice Ao13 t466.length co13]] (by rfl) rfl rfl z4_1 ?_
              with_reducible refine (impl_IsCond.calls kj6 t463 t464 t465 _ _ t466 false _ ?side1 ?side2 A55.out).mono ?_
              (case side1 => repeat (first | exact (Kd.S_reads' HO_476003.out).2.2 | (with_reducible refine Kd.C_alloc ?_ _) | (with_reducible refine Kd.C_drewN ?_ _) | (with_reducible refine Kd.C_drew ?_)))
              (case side2 => exact (Kd.S_reads' HO_476003.out).2.1)
              rintro e w75 ⟨rfl, hb⟩
              refine ⟨_, rfl, ?_⟩
              have n0_ := Aside0.mk (Kd.S_below z4_5 hb)
              have n1_ := Aside0.mk (Kd.S_below z4_4 hb)
              have n2_ := Aside0.mk (Kd.S_below z4_8 hb)
              have n3_ := Aside0.mk (blk_below (g := gb475) (o := .cells #[.int .i64 t463, .int .i64 t464, .int .i64 t465, .slice Ao13 t466.length co13] 29 (0, 0)) (pB4_ BK475.out) hb)
              have n4_ := Aside0.mk (blk_below (g := gb476) (o := .cells #[.int .i64 t469, .int .i64 t470, .int .i64 t471, .slice Ao15 t472.length co15] 29 (0, 0)) (pB4_ BK476.out) hb)
              have n5_ := Aside0.mk (below_step z4_0 hb)
              clear HO_476003
              clear HO_477003
              clear HO506
              clear BK475
              clear BK476
              clear HB
              have HO_476003 := n0_
              have HO_477003 := n1_
              have HO506 := n2_
              have BK475 := n3_
              have BK476 := n4_
              have HB := n5_
              clear n0_ n1_ n2_ n3_ n4_ n5_
              (try clear hb)
              (try clear hb2)
              (try clear hk)
              (try clear hi)
              refine hK.out _ _ ⟨(bC_ BK475.out 0).trans rfl, (bC_ BK475.out 1).trans rfl, (bC_ BK475.out 2).trans rfl, (bC_ BK475.out 3).trans rfl, (bC_ BK476.out 0).trans rfl, (bC_ BK476.out 1).trans rfl, (bC_ BK476.out 2).trans rfl, (bC_ BK476.out 3).trans rfl⟩ (fun hHeld => ?_)
              clear hK K
              refine norm_ (a' := ?_) ?_ ?_
              rotate_left
              · show Act.put _ (some 50) _ = _
                simp only [Act.put, List.setIfInBounds_toArray, List.set_cons_zero, List.set_cons_succ, i64_w, i32_w]
                rfl
              refine pure_ (i := 6) (N := some 51) (v := ?_) (a' := ?_) #[true, true, true, true, true, true, true, false, false, false, false, false, false, false, false] rfl rfl (any_of HT_.out z4_7) (fun _ _ _ h => h) (Or.inl ⟨by rfl, ?_⟩) ?_ ?_
              rotate_left
              · intro w'
                go_simp
                with_reducible rfl
              rotate_left
              · simp only [Act.put, List.setIfInBounds_toArray, List.set_cons_zero, List.set_cons_succ, i64_w, i32_w]
                rfl
              refine pure_ (i := 7) (N := some 52) (v := undef) (a' := ?_) #[true, true, true, true, true, true, true, true, false, false, false, false, false, false, false] rfl rfl (any_of HT_.out z4_7) (fun _ _ _ h => h) (Or.inr ⟨by rfl, rfl⟩) ?_ ?_
              rotate_left
              · simp only [Act.put, List.setIfInBounds_toArray, List.set_cons_zero, List.set_cons_succ, i64_w, i32_w]
                rfl
              refine pure_ (i := 8) (N := some 53) (v := undef) (a' := ?_) #[true, true, true, true, true, true, true, true, true, false, false, false, false, false, false] rfl rfl (any_of HT_.out z4_7) (fun _ _ _ h => h) (Or.inr ⟨by rfl, rfl⟩) ?_ ?_
              rotate_left
              · simp only [Act.put, List.setIfInBounds_toArray, List.set_cons_zero, List.set_cons_succ, i64_w, i32_w]
                rfl
              refine pure_ (i := 9) (N := some 54) (v := ?_) (a' := ?_) #[true, true, true, true, true, true, true, true, true, true, false, false, false, false, false] rfl rfl (any_of HT_.out z4_7) (fun _ _ _ h => h) (Or.inl ⟨by rfl, ?_⟩) ?_ ?_
              rotate_left
              · intro w'
                go_simp
                with_reducible rfl
              rotate_left
              · simp only [Act.put, List.setIfInBounds_toArray, List.set_cons_zero, List.set_cons_succ, i64_w, i32_w]
                rfl
              refine pure_ (i := 10) (N := some 55) (v := ?_) (a' := ?_) #[true, true, true, true, true, true, true, true, true, true, true, false, false, false, false] rfl rfl (any_of HT_.out z4_7) (fun _ _ _ h => h) (Or.inl ⟨by rfl, ?_⟩) ?_ ?_
              rotate_left
              · intro w'
                go_simp
                with_reducible rfl
              rotate_left
              · simp only [Act.put, List.setIfInBounds_toArray, List.set_cons_zero, List.set_cons_succ, i64_w, i32_w]
                rfl
              refine pure_ (i := 11) (N := some 56) (v := undef) (a' := ?_) #[true, true, true, true, true, true, true, true, true, true, true, true, false, false, false] rfl rfl (any_of HT_.out z4_7) (fun _ _ _ h => h) (Or.inr ⟨by rfl, rfl⟩) ?_ ?_
              rotate_left
              · simp only [Act.put, List.setIfInBounds_toArray, List.set_cons_zero, List.set_cons_succ, i64_w, i32_w]
                rfl
              refine pure_ (i := 12) (N := some 57) (v := undef) (a' := ?_) #[true, true, true, true, true, true, true, true, true, true, true, true, true, false, false] rfl rfl (any_of HT_.out z4_7) (fun _ _ _ h => h) (Or.inr ⟨by rfl, rfl⟩) ?_ ?_
              rotate_left
              · simp only [Act.put, List.setIfInBounds_toArray, List.set_cons_zero, List.set_cons_succ, i64_w, i32_w]
                rfl
              refine pure_ (i := 13) (N := some 58) (v := ?_) (a' := ?_) #[true, true, true, true, true, true, true, true, true, true, true, true, true, true, false] rfl rfl (any_of HT_.out z4_7) (fun _ _ _ h => h) (Or.inl ⟨by rfl, ?_⟩) ?_ ?_
              rotate_left
              · intro w'
                go_simp
                with_reducible rfl
              rotate_left
              · simp only [Act.put, List.setIfInBounds_toArray, List.set_cons_zero, List.set_cons_succ, i64_w, i32_w]
                rfl
              refine pure_ (i := 14) (N := some 59) (v := ?_) (a' := ?_) #[true, true, true, true, true, true, true, true, true, true, true, true, true, true, true] rfl rfl (any_of HT_.out z4_7) (fun _ _ _ h => h) (Or.inl ⟨by rfl, ?_⟩) ?_ ?_
              rotate_left
              · intro w'
                go_simp
                with_reducible rfl
              rotate_left
              · simp only [Act.put, List.setIfInBounds_toArray, List.set_cons_zero, List.set_cons_succ, i64_w, i32_w]
                rfl
              refine done_ (done_of HT_.out z4_7) ?_
              try go_wp2
              go_meet
              case rel => exact ⟨_, ((t507 != false)), z4_12, H', ⟨by have := HJ6.out; first | omega | exact Nat.le_refl _⟩, ⟨by (with_reducible repeat (first | apply Kd.S_alloc | apply Kd.S_drewN | apply Kd.S_drew)); exact Kd.S_mono HO_476003.out (fun _ hk => ⟨hk.1.1, ⟨hk.1.2.1, hk.1.2.2⟩⟩)⟩, ⟨by (with_reducible repeat (first | apply Kd.S_alloc | apply Kd.S_drewN | apply Kd.S_drew)); exact Kd.S_mono HO_477003.out (fun _ hk => ⟨hk.1.1, ⟨hk.1.2.1, hk.1.2.2⟩⟩)⟩, ⟨by (with_reducible repeat (first | refine blk_drewN ?_ _ | refine blk_drew ?_ | refine blk_alloc ?_ _)); exact BK475.out⟩, ⟨by (with_reducible repeat (first | refine blk_drewN ?_ _ | refine blk_drew ?_ | refine blk_alloc ?_ _)); exact BK476.out⟩, ⟨by repeat (first | (with_reducible first | exact HB.out | apply bA_ | apply bN_ | apply bD_ | refine bS_ ?_ GE475.out | refine bS_ ?_ GE476.out) | exact HB.out)⟩⟩
          case rest =>
            clear HC52
            try clear c1
            try clear c2
            try clear p2
            try clear c5
            try clear p6
            try clear c17
            try clear c20
            try clear c56
            try clear c58
            try clear p64
            obtain ⟨kq, x59_51, rfl, HA, HJ51, HO_476003, HO_477003, BK475, BK476, HB⟩ := hcut
            cases kq with
            | zero => exact absurd HA.out (by simp [laws_FnConditions.j1])
            | succ kj51 =>
              have H := HA.out
              clear HA
              simp only [laws_FnConditions.j1] at H
              by_cases c76 : x59_51 = true
              · subst c76
                have H1 : (some false) = some r := by rw [if_pos rfl] at H; exact H
                clear H
                have H := H1
                clear H1
                exact absurd ((Option.some.inj H).trans hr_.out) (by decide)
              · replace c76 := Bool.eq_false_iff.mpr c76
                subst c76
                have H1 : ((impl_LeavesOf.f kj51 t463 t464 t465 t466).bind fun t510 => (laws_FnConditions.l0 kj51 t510 0 t463 t464 t465 t466)) = some r := by rw [if_neg (show ¬ (false = true) by decide)] at H; exact H
                clear H
                have H := H1
                clear H1
                replace H := Option.bind_eq_some_iff.mp H
                obtain ⟨t510, A770, H⟩ := H
                replace H : (laws_FnConditions.l0 kj51 t510 0 t463 t464 t465 t466) = some r := H
                have A77 := Aside0.mk A770
                clear A770
                have H' := Aside0.mk H
                clear H
                have hnb78 := NB475_476.out
                have hnc78 := NB476_475.out
                have hcz79_0 : wc.cell? ⟨gb475, 0, none⟩ = some (.int .i64 t463) := (bC_ BK475.out 0).trans rfl
                have hcz79_1 : wc.cell? ⟨gb475, 1, none⟩ = some (.int .i64 t464) := (bC_ BK475.out 1).trans rfl
                have hcz79_2 : wc.cell? ⟨gb475, 2, none⟩ = some (.int .i64 t465) := (bC_ BK475.out 2).trans rfl
                have hcz79_3 : wc.cell? ⟨gb475, 3, none⟩ = some (.slice Ao13 t466.length co13) := (bC_ BK475.out 3).trans rfl
                have hfz79_0 := bF_ BK475.out 0
                have hfz79_1 := bF_ BK475.out 1
                have hfz79_2 := bF_ BK475.out 2
                have hfz79_3 := bF_ BK475.out 3
                go_wp2_with (first | ((with_reducible refine gate_callee (f := 8) rfl ?_); refine goesL_ (some 61) rfl rfl Try.func8 z4_7 rfl #[.agg #[.int .i64 t463, .int .i64 t464, .int .i64 t465, .slice Ao13 t466.length co13]] rfl z4_1 ?_; (with_reducible refine (impl_LeavesOf.calls kj51 t463 t464 t465 _ _ t466 t510 _ ?side1 ?side2 A77.out).mono ?_); (case side1 => repeat (first | exact (Kd.S_reads' HO_476003.out).2.2 | (with_reducible refine Kd.C_alloc ?_ _) | (with_reducible refine Kd.C_drewN ?_ _) | (with_reducible refine Kd.C_drew ?_))); (case side2 => exact (Kd.S_reads' HO_476003.out).2.1); rintro e w80 ⟨v511, rfl, ho0, hb⟩; refine ⟨_, rfl, ?_⟩; have n0_ := Aside0.mk (Kd.S_elder' z4_5 (Kd.S_base ho0) hb); have n1_ := Aside0.mk (Kd.S_elder' z4_4 (Kd.S_base ho0) hb); have n2_ := Aside0.mk (Kd.S_lower (Kd.S_newB (Kd.S_newB (Kd.S_new' (Kd.S_new' ho0 (Kd.S_lt z4_5)) (Kd.S_lt z4_4)) (g := gb475) (o := .cells #[.int .i64 t463, .int .i64 t464, .int .i64 t465, .slice Ao13 t466.length co13] 29 (0, 0)) (pB4_ BK475.out)) (g := gb476) (o := .cells #[.int .i64 t469, .int .i64 t470, .int .i64 t471, .slice Ao15 t472.length co15] 29 (0, 0)) (pB4_ BK476.out)) (below_size z4_0)); have n3_ := Aside0.mk (blk_below (g := gb475) (o := .cells #[.int .i64 t463, .int .i64 t464, .int .i64 t465, .slice Ao13 t466.length co13] 29 (0, 0)) (pB4_ BK475.out) hb); have n4_ := Aside0.mk (blk_below (g := gb476) (o := .cells #[.int .i64 t469, .int .i64 t470, .int .i64 t471, .slice Ao15 t472.length co15] 29 (0, 0)) (pB4_ BK476.out) hb); have n5_ := Aside0.mk (below_step z4_0 hb); clear HO_476003; clear HO_477003; clear BK475; clear BK476; clear HB; have HO_476003 := n0_; have HO_477003 := n1_; have HO512 := n2_; have BK475 := n3_; have BK476 := n4_; have HB := n5_; clear n0_ n1_ n2_ n3_ n4_ n5_; (try clear hb); (try clear hb2); (try clear hk); (try clear hi); (try clear ho0)))
                go_loopg [7] kj51 (fun kq v7 w' => ∃ (x7_3 : Int), v7 = .int .i64 x7_3 ∧ Aside0 (laws_FnConditions.l0 kq t510 x7_3 t463 t464 t465 t466 = some r) ∧ Aside0 (kq ≤ kj51) ∧ Aside0 (Kd.S k29 29 w' w.heap.size (fun k_ => some k_ ≠ ((.slice Ao13 t466.length co13) : Value).ownBlock ∧ some k_ ≠ ((.slice Ao15 t472.length co15) : Value).ownBlock ∧ k_ ≠ gb475 ∧ k_ ≠ gb476) v511 t510) ∧ Aside0 (Kd.S k29 29 w' w.heap.size (fun k_ => some k_ ≠ (v511 : Value).ownBlock ∧ some k_ ≠ ((.slice Ao15 t472.length co15) : Value).ownBlock ∧ k_ ≠ gb475 ∧ k_ ≠ gb476) (.slice Ao13 t466.length co13) t466) ∧ Aside0 (Kd.S k29 29 w' w.heap.size (fun k_ => some k_ ≠ (v511 : Value).ownBlock ∧ some k_ ≠ ((.slice Ao13 t466.length co13) : Value).ownBlock ∧ k_ ≠ gb475 ∧ k_ ≠ gb476) (.slice Ao15 t472.length co15) t472) ∧ Aside0 (w'.heap[gb475]? = some (.cells #[.int .i64 t463, .int .i64 t464, .int .i64 t465, (.slice Ao13 t466.length co13)] 29 (0, 0))) ∧ Aside0 (w'.heap[gb476]? = some (.cells #[.int .i64 t469, .int .i64 t470, .int .i64 t471, (.slice Ao15 t472.length co15)] 29 (0, 0))) ∧ Aside0 (Below w.heap.size w w'))
                case atStart => exact ⟨(0), z4_12, H', ⟨Nat.le_refl _⟩, ⟨by (with_reducible repeat (first | apply Kd.S_alloc | apply Kd.S_drewN | apply Kd.S_drew)); exact Kd.S_mono HO512.out (fun _ hk => ⟨hk.1.1.1.2, ⟨hk.1.1.2, ⟨hk.1.2, hk.2⟩⟩⟩)⟩, ⟨by (with_reducible repeat (first | apply Kd.S_alloc | apply Kd.S_drewN | apply Kd.S_drew)); exact Kd.S_mono HO_476003.out (fun _ hk => ⟨hk.2, ⟨hk.1.1, ⟨hk.1.2.1, hk.1.2.2⟩⟩⟩)⟩, ⟨by (with_reducible repeat (first | apply Kd.S_alloc | apply Kd.S_drewN | apply Kd.S_drew)); exact Kd.S_mono HO_477003.out (fun _ hk => ⟨hk.2, ⟨hk.1.1, ⟨hk.1.2.1, hk.1.2.2⟩⟩⟩)⟩, ⟨by (with_reducible repeat (first | refine blk_drewN ?_ _ | refine blk_drew ?_ | refine blk_alloc ?_ _)); exact BK475.out⟩, ⟨by (with_reducible repeat (first | refine blk_drewN ?_ _ | refine blk_drew ?_ | refine blk_alloc ?_ _)); exact BK476.out⟩, ⟨by repeat (first | (with_reducible first | exact HB.out | apply bA_ | apply bN_ | apply bD_ | refine bS_ ?_ GE475.out | refine bS_ ?_ GE476.out) | exact HB.out)⟩⟩
                case round =>
                  clear H'
                  try clear c1
                  try clear c2
                  try clear p2
                  try clear c5
                  try clear p6
                  try clear c7
                  try clear c8
                  try clear c17
                  try clear c20
                  try clear c56
                  try clear c58
                  try clear p64
                  try clear c76
                  try clear c78
                  try clear hcz79_0
                  try clear hcz79_1
                  try clear hcz79_2
                  try clear hcz79_3
                  try clear hfz79_0
                  try clear hfz79_1
                  try clear hfz79_2
                  try clear hfz79_3
                  try clear p2
                  try clear p6
                  try clear p64
                  obtain ⟨x7_3, rfl, HA, HK3, HO_6, HO_476003, HO_477003, BK475, BK476, HB⟩ := hrel
                  cases gk with
                  | zero => exact absurd HA.out (by simp [laws_FnConditions.l0])
                  | succ k3 =>
                    have H := HA.out
                    clear HA
                    simp only [laws_FnConditions.l0] at H
                    by_cases c81 : x7_3 < (t510.length : Int)
                    · rw [if_pos c81] at H
                      have c81b0 : decide (x7_3 < (t510.length : Int)) = true := decide_eq_true c81
                      clear c81
                      have H' := Aside0.mk H
                      clear H
                      obtain ⟨Ao82, co82, eo82⟩ := Kd.S_slice HO_6.out
                      subst eo82
                      go_wp2
                      go_loopg [8] k3 (fun kq v8 w' => ∃ (x8_4 : Int), v8 = .int .i64 x8_4 ∧ Aside0 (laws_FnConditions.l1 kq t510 x7_3 x8_4 t463 t464 t465 t466 = some r) ∧ Aside0 (kq ≤ k3) ∧ Aside0 (Kd.S k29 29 w' w.heap.size (fun k_ => some k_ ≠ ((.slice Ao13 t466.length co13) : Value).ownBlock ∧ some k_ ≠ ((.slice Ao15 t472.length co15) : Value).ownBlock ∧ k_ ≠ gb475 ∧ k_ ≠ gb476) (.slice Ao82 t510.length co82) t510) ∧ Aside0 (Kd.S k29 29 w' w.heap.size (fun k_ => some k_ ≠ ((.slice Ao82 t510.length co82) : Value).ownBlock ∧ some k_ ≠ ((.slice Ao15 t472.length co15) : Value).ownBlock ∧ k_ ≠ gb475 ∧ k_ ≠ gb476) (.slice Ao13 t466.length co13) t466) ∧ Aside0 (Kd.S k29 29 w' w.heap.size (fun k_ => some k_ ≠ ((.slice Ao82 t510.length co82) : Value).ownBlock ∧ some k_ ≠ ((.slice Ao13 t466.length co13) : Value).ownBlock ∧ k_ ≠ gb475 ∧ k_ ≠ gb476) (.slice Ao15 t472.length co15) t472) ∧ Aside0 (w'.heap[gb475]? = some (.cells #[.int .i64 t463, .int .i64 t464, .int .i64 t465, (.slice Ao13 t466.length co13)] 29 (0, 0))) ∧ Aside0 (w'.heap[gb476]? = some (.cells #[.int .i64 t469, .int .i64 t470, .int .i64 t471, (.slice Ao15 t472.length co15)] 29 (0, 0))) ∧ Aside0 (Below w.heap.size w w'))
                      case atStart => exact ⟨(0), z4_12, H', ⟨Nat.le_refl _⟩, ⟨by (with_reducible repeat (first | apply Kd.S_alloc | apply Kd.S_drewN | apply Kd.S_drew)); exact HO_6.out⟩, ⟨by (with_reducible repeat (first | apply Kd.S_alloc | apply Kd.S_drewN | apply Kd.S_drew)); exact HO_476003.out⟩, ⟨by (with_reducible repeat (first | apply Kd.S_alloc | apply Kd.S_drewN | apply Kd.S_drew)); exact HO_477003.out⟩, ⟨by (with_reducible repeat (first | refine blk_drewN ?_ _ | refine blk_drew ?_ | refine blk_alloc ?_ _)); exact BK475.out⟩, ⟨by (with_reducible repeat (first | refine blk_drewN ?_ _ | refine blk_drew ?_ | refine blk_alloc ?_ _)); exact BK476.out⟩, ⟨by repeat (first | (with_reducible first | exact HB.out | apply bA_ | apply bN_ | apply bD_ | refine bS_ ?_ GE475.out | refine bS_ ?_ GE476.out) | exact HB.out)⟩⟩
                      case round =>
                        clear H'
                        try clear c1
                        try clear c2
                        try clear p2
                        try clear c5
                        try clear p6
                        try clear c7
                        try clear c8
                        try clear c17
                        try clear c20
                        try clear c56
                        try clear c58
                        try clear p64
                        try clear c76
                        try clear c78
                        try clear c81
                        try clear c81b0
                        try clear hcz79_0
                        try clear hcz79_1
                        try clear hcz79_2
                        try clear hcz79_3
                        try clear hfz79_0
                        try clear hfz79_1
                        try clear hfz79_2
                        try clear hfz79_3
                        try clear p2
                        try clear p6
                        try clear p64
                        obtain ⟨x8_4, rfl, HA, HK4, HO_6, HO_476003, HO_477003, BK475, BK476, HB⟩ := hrel
                        cases gk with
                        | zero => exact absurd HA.out (by simp [laws_FnConditions.l1])
                        | succ k4 =>
                          have H := HA.out
                          clear HA
                          simp only [laws_FnConditions.l1] at H
                          by_cases c83 : x8_4 < x7_3
                          · rw [if_pos c83] at H
                            have c83b0 : decide (x8_4 < x7_3) = true := decide_eq_true c83
                            clear c83
                            by_cases c84 : 0 ≤ x7_3
                            · rw [if_pos c84] at H
                              have c84b0 : decide (0 ≤ x7_3) = true := decide_eq_true c84
                              clear c84
                              by_cases c85 : x7_3 < (t510.length : Int)
                              · rw [if_pos c85] at H
                                have c85b0 : decide (x7_3 < (t510.length : Int)) = true := decide_eq_true c85
                                clear c85
                                by_cases c86 : 0 ≤ x8_4
                                · rw [if_pos c86] at H
                                  have c86b0 : decide (0 ≤ x8_4) = true := decide_eq_true c86
                                  clear c86
                                  by_cases c87 : x8_4 < (t510.length : Int)
                                  · rw [if_pos c87] at H
                                    have c87b0 : decide (x8_4 < (t510.length : Int)) = true := decide_eq_true c87
                                    clear c87
                                    replace H := Option.bind_eq_some_iff.mp H
                                    obtain ⟨t517, A880, H⟩ := H
                                    replace H : (if t517 = true then (some false) else (laws_FnConditions.l1 k4 t510 x7_3 (wrap64 (x8_4 + 1)) t463 t464 t465 t466)) = some r := H
                                    have A88 := Aside0.mk A880
                                    clear A880
                                    by_cases c89 : t517 = true
                                    · subst c89
                                      have H1 : (some false) = some r := by rw [if_pos rfl] at H; exact H
                                      clear H
                                      have H := H1
                                      clear H1
                                      exact absurd ((Option.some.inj H).trans hr_.out) (by decide)
                                    · replace c89 := Bool.eq_false_iff.mpr c89
                                      subst c89
                                      have H1 : (laws_FnConditions.l1 k4 t510 x7_3 (wrap64 (x8_4 + 1)) t463 t464 t465 t466) = some r := by rw [if_neg (show ¬ (false = true) by decide)] at H; exact H
                                      clear H
                                      have H := H1
                                      clear H1
                                      have H' := Aside0.mk H
                                      clear H
                                      try go_wp2
                                      have n0_ := Aside0.mk (Kd.S_drew HO_6.out)
                                      have n1_ := Aside0.mk (Kd.S_drew HO_476003.out)
                                      have n2_ := Aside0.mk (Kd.S_drew HO_477003.out)
                                      have n3_ := Aside0.mk (blk_drew BK475.out)
                                      have n4_ := Aside0.mk (blk_drew BK476.out)
                                      have n5_ := Aside0.mk (bD_ HB.out)
                                      clear HO_6
                                      clear HO_476003
                                      clear HO_477003
                                      clear BK475
                                      clear BK476
                                      clear HB
                                      have HO_6 := n0_
                                      have HO_476003 := n1_
                                      have HO_477003 := n2_
                                      have BK475 := n3_
                                      have BK476 := n4_
                                      have HB := n5_
                                      clear n0_ n1_ n2_ n3_ n4_ n5_
                                      have p515 : 0 ≤ (x7_3 : Int) := of_decide_eq_true z4_11
                                      have q515 : x7_3 < (t510.length : Int) := of_decide_eq_true z4_11
                                      obtain ⟨ad515, A515_3, c515_3, e515, hx515_0, hx515_1, hx515_2, hx515_3, hl515_3, hi515_3⟩ := at_T29 (Kd.S_reads' HO_6.out).2.2 x7_3 p515 q515
                                      cases e515
                                      obtain ⟨ce515, hce515, hMe515, hcc515⟩ := Kd.S_get HO_6.out z29 x7_3 p515 (by first | exact q515 | exact of_decide_eq_true z4_11 | (have e_ := (Kd.S_reads' HO_6.out).1; omega))
                                      obtain ⟨ve515_3, rfl, ge515_3⟩ := k29_openM hMe515
                                      have hv515_3 := hcc515 3 _ rfl
                                      rw [add_field _ _ 3 (by omega)] at hv515_3
                                      replace hv515_3 := Option.some.inj (hv515_3.symm.trans hx515_3)
                                      rw [hv515_3] at ge515_3
                                      have HL515_3 := Aside0.mk (show Kd.R k29 29 _ _ _ _ ((rd_T29 t510 x7_3).f3) from Kd.S_R ge515_3)
                                      clear hv515_3 ge515_3
                                      clear hcc515 hce515
                                      have HR515_3 := Aside0.mk hi515_3
                                      have HC515_3 := Aside0.mk hl515_3
                                      clear hi515_3 hl515_3
                                      replace p515 := eq_true p515
                                      replace q515 := eq_true q515
                                      have p516 : 0 ≤ (x8_4 : Int) := of_decide_eq_true z4_11
                                      have q516 : x8_4 < (t510.length : Int) := of_decide_eq_true z4_11
                                      obtain ⟨ad516, A516_3, c516_3, e516, hx516_0, hx516_1, hx516_2, hx516_3, hl516_3, hi516_3⟩ := at_T29 (Kd.S_reads' HO_6.out).2.2 x8_4 p516 q516
                                      obtain rfl : ad515 = ad516 := (by injection e516)
                                      obtain ⟨ce516, hce516, hMe516, hcc516⟩ := Kd.S_get HO_6.out z29 x8_4 p516 (by first | exact q516 | exact of_decide_eq_true z4_11 | (have e_ := (Kd.S_reads' HO_6.out).1; omega))
                                      obtain ⟨ve516_3, rfl, ge516_3⟩ := k29_openM hMe516
                                      have hv516_3 := hcc516 3 _ rfl
                                      rw [add_field _ _ 3 (by omega)] at hv516_3
                                      replace hv516_3 := Option.some.inj (hv516_3.symm.trans hx516_3)
                                      rw [hv516_3] at ge516_3
                                      have HL516_3 := Aside0.mk (show Kd.R k29 29 _ _ _ _ ((rd_T29 t510 x8_4).f3) from Kd.S_R ge516_3)
                                      clear hv516_3 ge516_3
                                      clear hcc516 hce516
                                      have HR516_3 := Aside0.mk hi516_3
                                      have HC516_3 := Aside0.mk hl516_3
                                      clear hi516_3 hl516_3
                                      replace p516 := eq_true p516
                                      replace q516 := eq_true q516
                                      refine start_ (n := 9) (S := fun w' => w'.cell? (ad515.add ((x7_3).toNat * 4)) = some (.int .i64 ((rd_T29 t510 x7_3).f0)) ∧ w'.cell? ⟨(ad515.add ((x7_3).toNat * 4)).block, (ad515.add ((x7_3).toNat * 4)).off + 1, none⟩ = some (.int .i64 ((rd_T29 t510 x7_3).f1)) ∧ w'.cell? ⟨(ad515.add ((x7_3).toNat * 4)).block, (ad515.add ((x7_3).toNat * 4)).off + 2, none⟩ = some (.int .i64 ((rd_T29 t510 x7_3).f2)) ∧ w'.cell? ⟨(ad515.add ((x7_3).toNat * 4)).block, (ad515.add ((x7_3).toNat * 4)).off + 3, none⟩ = some (.slice A515_3 ((rd_T29 t510 x7_3).f3).length c515_3) ∧ w'.cell? (ad515.add ((x8_4).toNat * 4)) = some (.int .i64 ((rd_T29 t510 x8_4).f0)) ∧ w'.cell? ⟨(ad515.add ((x8_4).toNat * 4)).block, (ad515.add ((x8_4).toNat * 4)).off + 1, none⟩ = some (.int .i64 ((rd_T29 t510 x8_4).f1)) ∧ w'.cell? ⟨(ad515.add ((x8_4).toNat * 4)).block, (ad515.add ((x8_4).toNat * 4)).off + 2, none⟩ = some (.int .i64 ((rd_T29 t510 x8_4).f2)) ∧ w'.cell? ⟨(ad515.add ((x8_4).toNat * 4)).block, (ad515.add ((x8_4).toNat * 4)).off + 3, none⟩ = some (.slice A516_3 ((rd_T29 t510 x8_4).f3).length c516_3)) (ds := []) #[false, false, false, false, false, false, false, false, false] z4_7 rfl rfl ⟨hx515_0, hx515_1, hx515_2, hx515_3, hx516_0, hx516_1, hx516_2, hx516_3⟩ (fun hHeld => ?_); refine with_tabW laws_FnConditions.tab16 laws_FnConditions.bits16 (fun HT_ HW_ => ?_)
                                      generalize wr.drew = w90 at HO_6 HO_476003 HO_477003 BK475 BK476 HB HL515_3 HL516_3 HR515_3 HR516_3 hx515_0 hx515_1 hx515_2 hx515_3 hx516_0 hx516_1 hx516_2 hx516_3 hHeld ⊢
                                      refine pure_ (i := 0) (N := some 73) (v := ?_) (a' := ?_) #[true, false, false, false, false, false, false, false, false] rfl rfl (any_of HT_.out z4_7) (fun _ _ _ h => h) (Or.inl ⟨by rfl, ?_⟩) ?_ ?_
                                      rotate_left
                                      · intro w'
                                        go_simp
                                        with_reducible rfl
                                      rotate_left
                                      · simp only [Act.put, List.setIfInBounds_toArray, List.set_cons_zero, List.set_cons_succ, i64_w, i32_w]
                                        rfl
                                      refine pure_ (i := 1) (N := some 74) (v := ?_) (a' := ?_) #[true, true, false, false, false, false, false, false, false] rfl rfl (any_of HT_.out z4_7) (fun _ _ _ h => h) (Or.inl ⟨by rfl, ?_⟩) ?_ ?_
                                      rotate_left
                                      · intro w'
                                        go_simp
                                        with_reducible rfl
                                      rotate_left
                                      · simp only [Act.put, List.setIfInBounds_toArray, List.set_cons_zero, List.set_cons_succ, i64_w, i32_w]
                                        rfl
                                      refine pure_ (i := 2) (N := some 75) (v := ?_) (a' := ?_) #[true, true, true, false, false, false, false, false, false] rfl rfl (any_of HT_.out z4_7) (fun _ _ _ h => h) (Or.inl ⟨by rfl, ?_⟩) ?_ ?_
                                      rotate_left
                                      · intro w'
                                        go_simp
                                        with_reducible rfl
                                      rotate_left
                                      · simp only [Act.put, List.setIfInBounds_toArray, List.set_cons_zero, List.set_cons_succ, i64_w, i32_w]
                                        rfl
                                      refine pure_ (i := 4) (N := some 77) (v := ?_) (a' := ?_) #[true, true, true, false, true, false, false, false, false] rfl rfl (any_of HT_.out z4_7) (fun _ _ _ h => h) (Or.inl ⟨by rfl, ?_⟩) ?_ ?_
                                      rotate_left
                                      · intro w'
                                        go_simp
                                        with_reducible rfl
                                      rotate_left
                                      · simp only [Act.put, List.setIfInBounds_toArray, List.set_cons_zero, List.set_cons_succ, i64_w, i32_w]
                                        rfl
                                      refine pure_ (i := 5) (N := some 78) (v := ?_) (a' := ?_) #[true, true, true, false, true, true, false, false, false] rfl rfl (any_of HT_.out z4_7) (fun _ _ _ h => h) (Or.inl ⟨by rfl, ?_⟩) ?_ ?_
                                      rotate_left
                                      · intro w'
                                        go_simp
                                        with_reducible rfl
                                      rotate_left
                                      · simp only [Act.put, List.setIfInBounds_toArray, List.set_cons_zero, List.set_cons_succ, i64_w, i32_w]
                                        rfl
                                      refine pure_ (i := 6) (N := some 79) (v := ?_) (a' := ?_) #[true, true, true, false, true, true, true, false, false] rfl rfl (any_of HT_.out z4_7) (fun _ _ _ h => h) (Or.inl ⟨by rfl, ?_⟩) ?_ ?_
                                      rotate_left
                                      · intro w'
                                        go_simp
                                        with_reducible rfl
                                      rotate_left
                                      · simp only [Act.put, List.setIfInBounds_toArray, List.set_cons_zero, List.set_cons_succ, i64_w, i32_w]
                                        rfl
                                      refine take_ (i := 3) (N := some 76) (v := ?_) (a' := ?_) #[true, true, true, true, true, true, true, false, false] rfl rfl (take_ofW HT_.out HW_.out z4_7) (fun _ _ _ h => h) (Or.inl ⟨by rfl, ?_⟩) hHeld ?_ ?_
                                      rotate_left
                                      · rintro w' ⟨s0, s1, s2, s3, s4, s5, s6, s7⟩
                                        go_simp
                                        with_reducible rfl
                                      rotate_left
                                      · simp only [Act.put, List.setIfInBounds_toArray, List.set_cons_zero, List.set_cons_succ, i64_w, i32_w]
                                        rfl
                                      refine take_ (i := 7) (N := some 80) (v := ?_) (a' := ?_) #[true, true, true, true, true, true, true, true, false] rfl rfl (take_ofW HT_.out HW_.out z4_7) (fun _ _ _ h => h) (Or.inl ⟨by rfl, ?_⟩) hHeld ?_ ?_
                                      rotate_left
                                      · rintro w' ⟨s0, s1, s2, s3, s4, s5, s6, s7⟩
                                        go_simp
                                        with_reducible rfl
                                      rotate_left
                                      · simp only [Act.put, List.setIfInBounds_toArray, List.set_cons_zero, List.set_cons_succ, i64_w, i32_w]
                                        rfl
                                      refine one_ (i := 8) (N := some 81) #[true, true, true, true, true, true, true, true, true] rfl rfl (one_of HT_.out z4_7) (by decide) (fun K hK => ?_)
                                      refine goes_ Try.func21 z4_7 rfl #[.agg #[.int .i64 ((rd_T29 t510 x7_3).f0), .int .i64 ((rd_T29 t510 x7_3).f1), .int .i64 ((rd_T29 t510 x7_3).f2), .slice A515_3 ((rd_T29 t510 x7_3).f3).length c515_3], .agg #[.int .i64 ((rd_T29 t510 x8_4).f0), .int .i64 ((rd_T29 t510 x8_4).f1), .int .i64 ((rd_T29 t510 x8_4).f2), .slice A516_3 ((rd_T29 t510 x8_4).f3).length c516_3]] (by rfl) rfl rfl z4_1 ?_
                                      with_reducible refine (impl_EqualConds.calls k4 ((rd_T29 t510 x7_3).f0) ((rd_T29 t510 x7_3).f1) ((rd_T29 t510 x7_3).f2) _ _ ((rd_T29 t510 x7_3).f3) ((rd_T29 t510 x8_4).f0) ((rd_T29 t510 x8_4).f1) ((rd_T29 t510 x8_4).f2) _ _ ((rd_T29 t510 x8_4).f3) false _ ?side1 ?side2 ?side3 ?side4 A88.out).mono ?_
                                      (case side1 => repeat (first | exact (by repeat (first | (with_reducible exact HR515_3.out) | (with_reducible refine Kd.C_alloc ?_ _) | (with_reducible refine Kd.C_drewN ?_ _) | (with_reducible refine Kd.C_drew ?_) | exact HR515_3.out)) | (with_reducible refine Kd.C_alloc ?_ _) | (with_reducible refine Kd.C_drewN ?_ _) | (with_reducible refine Kd.C_drew ?_)))
                                      (case side2 => exact HC515_3.out)
                                      (case side3 => repeat (first | exact (by repeat (first | (with_reducible exact HR516_3.out) | (with_reducible refine Kd.C_alloc ?_ _) | (with_reducible refine Kd.C_drewN ?_ _) | (with_reducible refine Kd.C_drew ?_) | exact HR516_3.out)) | (with_reducible refine Kd.C_alloc ?_ _) | (with_reducible refine Kd.C_drewN ?_ _) | (with_reducible refine Kd.C_drew ?_)))
                                      (case side4 => exact HC516_3.out)
                                      rintro e w91 ⟨rfl, hb⟩
                                      have HS0_ := (hb.cell (World.block_lt_of_cell? _ _ (hHeld.1))).trans (hHeld.1)
                                      have HS1_ := (hb.cell (World.block_lt_of_cell? _ _ (hHeld.2.1))).trans (hHeld.2.1)
                                      have HS2_ := (hb.cell (World.block_lt_of_cell? _ _ (hHeld.2.2.1))).trans (hHeld.2.2.1)
                                      have HS3_ := (hb.cell (World.block_lt_of_cell? _ _ (hHeld.2.2.2.1))).trans (hHeld.2.2.2.1)
                                      have HS4_ := (hb.cell (World.block_lt_of_cell? _ _ (hHeld.2.2.2.2.1))).trans (hHeld.2.2.2.2.1)
                                      have HS5_ := (hb.cell (World.block_lt_of_cell? _ _ (hHeld.2.2.2.2.2.1))).trans (hHeld.2.2.2.2.2.1)
                                      have HS6_ := (hb.cell (World.block_lt_of_cell? _ _ (hHeld.2.2.2.2.2.2.1))).trans (hHeld.2.2.2.2.2.2.1)
                                      have HS7_ := (hb.cell (World.block_lt_of_cell? _ _ (hHeld.2.2.2.2.2.2.2))).trans (hHeld.2.2.2.2.2.2.2)
                                      refine ⟨_, rfl, ?_⟩
                                      have n0_ := Aside0.mk (Kd.S_below (by (with_reducible repeat (first | apply Kd.S_alloc | apply Kd.S_drewN | apply Kd.S_drew)); exact HO_6.out) hb)
                                      have n1_ := Aside0.mk (Kd.S_below z4_5 hb)
                                      have n2_ := Aside0.mk (Kd.S_below z4_4 hb)
                                      have n3_ := Aside0.mk (Kd.R_below (by (with_reducible repeat (first | apply Kd.R_alloc | apply Kd.R_drewN | apply Kd.R_drew)); exact HL515_3.out) hb)
                                      have n4_ := Aside0.mk (Kd.R_below (by (with_reducible repeat (first | apply Kd.R_alloc | apply Kd.R_drewN | apply Kd.R_drew)); exact HL516_3.out) hb)
                                      have n5_ := Aside0.mk (blk_below (g := gb475) (o := .cells #[.int .i64 t463, .int .i64 t464, .int .i64 t465, .slice Ao13 t466.length co13] 29 (0, 0)) (pB4_ BK475.out) hb)
                                      have n6_ := Aside0.mk (blk_below (g := gb476) (o := .cells #[.int .i64 t469, .int .i64 t470, .int .i64 t471, .slice Ao15 t472.length co15] 29 (0, 0)) (pB4_ BK476.out) hb)
                                      have n7_ := Aside0.mk (Kd.C_below (by repeat (first | (with_reducible exact HR515_3.out) | (with_reducible refine Kd.C_alloc ?_ _) | (with_reducible refine Kd.C_drewN ?_ _) | (with_reducible refine Kd.C_drew ?_) | exact HR515_3.out)) hb)
                                      have n8_ := Aside0.mk (Kd.C_below (by repeat (first | (with_reducible exact HR516_3.out) | (with_reducible refine Kd.C_alloc ?_ _) | (with_reducible refine Kd.C_drewN ?_ _) | (with_reducible refine Kd.C_drew ?_) | exact HR516_3.out)) hb)
                                      have n9_ := Aside0.mk (below_step z4_0 hb)
                                      clear HO_6
                                      clear HO_476003
                                      clear HO_477003
                                      clear HL515_3
                                      clear HL516_3
                                      clear BK475
                                      clear BK476
                                      clear HR515_3
                                      clear HR516_3
                                      clear HB
                                      have HO_6 := n0_
                                      have HO_476003 := n1_
                                      have HO_477003 := n2_
                                      have HL515_3 := n3_
                                      have HL516_3 := n4_
                                      have BK475 := n5_
                                      have BK476 := n6_
                                      have HR515_3 := n7_
                                      have HR516_3 := n8_
                                      have HB := n9_
                                      clear n0_ n1_ n2_ n3_ n4_ n5_ n6_ n7_ n8_ n9_
                                      (try clear hb)
                                      (try clear hb2)
                                      (try clear hk)
                                      (try clear hi)
                                      refine hK.out _ _ ⟨HS0_, HS1_, HS2_, HS3_, HS4_, HS5_, HS6_, HS7_⟩ (fun hHeld => ?_)
                                      clear hK K
                                      refine norm_ (a' := ?_) ?_ ?_
                                      rotate_left
                                      · show Act.put _ (some 81) _ = _
                                        simp only [Act.put, List.setIfInBounds_toArray, List.set_cons_zero, List.set_cons_succ, i64_w, i32_w]
                                        rfl
                                      refine done_ (done_of HT_.out z4_7) ?_
                                      try go_wp2
                                      go_roundg k4
                                      case measure => have := HJ6.out; have := HJ51.out; have := HK3.out; have := HK4.out; omega
                                      case rel => exact ⟨(wrap64 (x8_4 + 1)), z4_12, H', ⟨by have := HJ6.out; have := HJ51.out; have := HK3.out; have := HK4.out; omega⟩, ⟨by (with_reducible repeat (first | apply Kd.S_alloc | apply Kd.S_drewN | apply Kd.S_drew)); exact HO_6.out⟩, ⟨by (with_reducible repeat (first | apply Kd.S_alloc | apply Kd.S_drewN | apply Kd.S_drew)); exact HO_476003.out⟩, ⟨by (with_reducible repeat (first | apply Kd.S_alloc | apply Kd.S_drewN | apply Kd.S_drew)); exact HO_477003.out⟩, ⟨by (with_reducible repeat (first | refine blk_drewN ?_ _ | refine blk_drew ?_ | refine blk_alloc ?_ _)); exact BK475.out⟩, ⟨by (with_reducible repeat (first | refine blk_drewN ?_ _ | refine blk_drew ?_ | refine blk_alloc ?_ _)); exact BK476.out⟩, ⟨by repeat (first | (with_reducible first | exact HB.out | apply bA_ | apply bN_ | apply bD_ | refine bS_ ?_ GE475.out | refine bS_ ?_ GE476.out) | exact HB.out)⟩⟩
                                  · rw [if_neg c87] at H
                                    exact absurd H (by simp)
                                · rw [if_neg c86] at H
                                  exact absurd H (by simp)
                              · rw [if_neg c85] at H
                                exact absurd H (by simp)
                            · rw [if_neg c84] at H
                              exact absurd H (by simp)
                          · rw [if_neg c83] at H
                            have c83b0 : decide (x8_4 < x7_3) = false := decide_eq_false c83
                            clear c83
                            by_cases c92 : 0 ≤ x7_3
                            · rw [if_pos c92] at H
                              have c92b0 : decide (0 ≤ x7_3) = true := decide_eq_true c92
                              clear c92
                              by_cases c93 : x7_3 < (t510.length : Int)
                              · rw [if_pos c93] at H
                                have c93b0 : decide (x7_3 < (t510.length : Int)) = true := decide_eq_true c93
                                clear c93
                                by_cases c94 : (((rd_T29 t510 x7_3).f3).length : Int) = 0
                                · rw [if_pos c94] at H
                                  have c94b0 : ((((rd_T29 t510 x7_3).f3).length : Int) == 0) = true := beq_iff_eq.mpr c94
                                  have c94b1 : ((((rd_T29 t510 x7_3).f3).length : Int) != 0) = false := bne_eq_false_iff_eq.mpr c94
                                  clear c94
                                  replace H := Option.bind_eq_some_iff.mp H
                                  obtain ⟨t520, A950, H⟩ := H
                                  replace H : (if t520 = 0 then (laws_FnConditions.l0 k4 t510 (wrap64 (x7_3 + 1)) t463 t464 t465 t466) else (some false)) = some r := H
                                  have A95 := Aside0.mk A950
                                  clear A950
                                  by_cases c96 : t520 = 0
                                  · rw [if_pos c96] at H
                                    have c96b0 : (t520 == 0) = true := beq_iff_eq.mpr c96
                                    have c96b1 : (t520 != 0) = false := bne_eq_false_iff_eq.mpr c96
                                    clear c96
                                    have H' := Aside0.mk H
                                    clear H
                                    have p518 : 0 ≤ (x7_3 : Int) := of_decide_eq_true z4_11
                                    have q518 : x7_3 < (t510.length : Int) := of_decide_eq_true z4_11
                                    obtain ⟨ad518, A518_3, c518_3, e518, hx518_0, hx518_1, hx518_2, hx518_3, hl518_3, hi518_3⟩ := at_T29 (Kd.S_reads' HO_6.out).2.2 x7_3 p518 q518
                                    cases e518
                                    obtain ⟨ce518, hce518, hMe518, hcc518⟩ := Kd.S_get HO_6.out z29 x7_3 p518 (by first | exact q518 | exact of_decide_eq_true z4_11 | (have e_ := (Kd.S_reads' HO_6.out).1; omega))
                                    obtain ⟨ve518_3, rfl, ge518_3⟩ := k29_openM hMe518
                                    have hv518_3 := hcc518 3 _ rfl
                                    rw [add_field _ _ 3 (by omega)] at hv518_3
                                    replace hv518_3 := Option.some.inj (hv518_3.symm.trans hx518_3)
                                    rw [hv518_3] at ge518_3
                                    have HL518_3 := Aside0.mk (show Kd.R k29 29 _ _ _ _ ((rd_T29 t510 x7_3).f3) from Kd.S_R ge518_3)
                                    clear hv518_3 ge518_3
                                    clear hcc518 hce518
                                    have HR518_3 := Aside0.mk hi518_3
                                    have HC518_3 := Aside0.mk hl518_3
                                    clear hi518_3 hl518_3
                                    replace p518 := eq_true p518
                                    replace q518 := eq_true q518
                                    have p519 : 0 ≤ (x7_3 : Int) := of_decide_eq_true z4_11
                                    have q519 : x7_3 < (t510.length : Int) := of_decide_eq_true z4_11
                                    obtain ⟨ad519, A519_3, c519_3, e519, hx519_0, hx519_1, hx519_2, hx519_3, hl519_3, hi519_3⟩ := at_T29 (Kd.S_reads' HO_6.out).2.2 x7_3 p519 q519
                                    obtain rfl : ad518 = ad519 := (by injection e519)
                                    obtain ⟨ce519, hce519, hMe519, hcc519⟩ := Kd.S_get HO_6.out z29 x7_3 p519 (by first | exact q519 | exact of_decide_eq_true z4_11 | (have e_ := (Kd.S_reads' HO_6.out).1; omega))
                                    obtain ⟨ve519_3, rfl, ge519_3⟩ := k29_openM hMe519
                                    have hv519_3 := hcc519 3 _ rfl
                                    rw [add_field _ _ 3 (by omega)] at hv519_3
                                    replace hv519_3 := Option.some.inj (hv519_3.symm.trans hx519_3)
                                    rw [hv519_3] at ge519_3
                                    have HL519_3 := Aside0.mk (show Kd.R k29 29 _ _ _ _ ((rd_T29 t510 x7_3).f3) from Kd.S_R ge519_3)
                                    clear hv519_3 ge519_3
                                    clear hcc519 hce519
                                    have HR519_3 := Aside0.mk hi519_3
                                    have HC519_3 := Aside0.mk hl519_3
                                    clear hi519_3 hl519_3
                                    replace p519 := eq_true p519
                                    replace q519 := eq_true q519
                                    have ea_ := Option.some.inj (hx518_3.symm.trans hx519_3)
                                    injection ea_ with ea_ en_ ec_
                                    subst ea_
                                    subst ec_
                                    clear en_
                                    go_wp2_with (first | (go_at_call 22; (with_reducible refine (impl_ArityOf.calls k4 ((rd_T29 t510 x7_3).f0) t520 _ A95.out).mono ?_); rintro e w' ⟨rfl, ⟨nd, rfl⟩⟩))
                                    go_roundg k4
                                    case measure => have := HJ6.out; have := HJ51.out; have := HK3.out; have := HK4.out; omega
                                    case rel => exact ⟨(wrap64 (x7_3 + 1)), z4_12, H', ⟨by have := HJ6.out; have := HJ51.out; have := HK3.out; have := HK4.out; omega⟩, ⟨by (with_reducible repeat (first | apply Kd.S_alloc | apply Kd.S_drewN | apply Kd.S_drew)); exact HO_6.out⟩, ⟨by (with_reducible repeat (first | apply Kd.S_alloc | apply Kd.S_drewN | apply Kd.S_drew)); exact HO_476003.out⟩, ⟨by (with_reducible repeat (first | apply Kd.S_alloc | apply Kd.S_drewN | apply Kd.S_drew)); exact HO_477003.out⟩, ⟨by (with_reducible repeat (first | refine blk_drewN ?_ _ | refine blk_drew ?_ | refine blk_alloc ?_ _)); exact BK475.out⟩, ⟨by (with_reducible repeat (first | refine blk_drewN ?_ _ | refine blk_drew ?_ | refine blk_alloc ?_ _)); exact BK476.out⟩, ⟨by repeat (first | (with_reducible first | exact HB.out | apply bA_ | apply bN_ | apply bD_ | refine bS_ ?_ GE475.out | refine bS_ ?_ GE476.out) | exact HB.out)⟩⟩
                                  · rw [if_neg c96] at H
                                    have c96b0 : (t520 == 0) = false := beq_eq_false_iff_ne.mpr c96
                                    have c96b1 : (t520 != 0) = true := bne_iff_ne.mpr c96
                                    exact absurd ((Option.some.inj H).trans hr_.out) (by decide)
                                · rw [if_neg c94] at H
                                  have c94b0 : ((((rd_T29 t510 x7_3).f3).length : Int) == 0) = false := beq_eq_false_iff_ne.mpr c94
                                  have c94b1 : ((((rd_T29 t510 x7_3).f3).length : Int) != 0) = true := bne_iff_ne.mpr c94
                                  have c94b2 : ¬ (((rd_T29 t510 x7_3).f3) = []) := fun h_ => c94 (by rw [h_]; rfl)
                                  exact absurd ((Option.some.inj H).trans hr_.out) (by decide)
                              · rw [if_neg c93] at H
                                exact absurd H (by simp)
                            · rw [if_neg c92] at H
                              exact absurd H (by simp)
                    · rw [if_neg c81] at H
                      have c81b0 : decide (x7_3 < (t510.length : Int)) = false := decide_eq_false c81
                      clear c81
                      replace H := Option.bind_eq_some_iff.mp H
                      obtain ⟨t513, A970, H⟩ := H
                      replace H : (if (t510.length : Int) ≤ t513 then ((impl_EqualConds.f k3 t463 t464 t465 t466 t463 t464 t465 t466).bind fun t514 => (some t514)) else (some false)) = some r := H
                      have A97 := Aside0.mk A970
                      clear A970
                      by_cases c98 : (t510.length : Int) ≤ t513
                      · rw [if_pos c98] at H
                        have c98b0 : decide ((t510.length : Int) ≤ t513) = true := decide_eq_true c98
                        clear c98
                        replace H := Option.bind_eq_some_iff.mp H
                        obtain ⟨t514, A990, H⟩ := H
                        replace H : (some t514) = some r := H
                        have A99 := Aside0.mk A990
                        clear A990
                        obtain rfl := Option.some.inj H
                        obtain ⟨Ao100, co100, eo100⟩ := Kd.S_slice HO_6.out
                        subst eo100
                        have hnb101 := NB475_476.out
                        have hnc101 := NB476_475.out
                        have hcz102_0 : wr.cell? ⟨gb475, 0, none⟩ = some (.int .i64 t463) := (bC_ BK475.out 0).trans rfl
                        have hcz102_1 : wr.cell? ⟨gb475, 1, none⟩ = some (.int .i64 t464) := (bC_ BK475.out 1).trans rfl
                        have hcz102_2 : wr.cell? ⟨gb475, 2, none⟩ = some (.int .i64 t465) := (bC_ BK475.out 2).trans rfl
                        have hcz102_3 : wr.cell? ⟨gb475, 3, none⟩ = some (.slice Ao13 t466.length co13) := (bC_ BK475.out 3).trans rfl
                        have hfz102_0 := bF_ BK475.out 0
                        have hfz102_1 := bF_ BK475.out 1
                        have hfz102_2 := bF_ BK475.out 2
                        have hfz102_3 := bF_ BK475.out 3
                        go_wp2_with (first | ((with_reducible refine gate_callee (f := 16) rfl ?_); refine goesL_ (some 101) rfl rfl Try.func16 z4_7 rfl #[.agg #[.int .i64 t463, .int .i64 t464, .int .i64 t465, .slice Ao13 t466.length co13]] rfl z4_1 ?_; (with_reducible refine (impl_SizeOf.calls k3 t463 t464 t465 _ _ t466 t513 _ ?side1 ?side2 A97.out).mono ?_); (case side1 => repeat (first | exact (Kd.S_reads' HO_476003.out).2.2 | (with_reducible refine Kd.C_alloc ?_ _) | (with_reducible refine Kd.C_drewN ?_ _) | (with_reducible refine Kd.C_drew ?_))); (case side2 => exact (Kd.S_reads' HO_476003.out).2.1); rintro e w103 ⟨rfl, hb⟩; refine ⟨_, rfl, ?_⟩; have n0_ := Aside0.mk (Kd.S_below (by (with_reducible repeat (first | apply Kd.S_alloc | apply Kd.S_drewN | apply Kd.S_drew)); exact HO_6.out) hb); have n1_ := Aside0.mk (Kd.S_below z4_5 hb); have n2_ := Aside0.mk (Kd.S_below z4_4 hb); have n3_ := Aside0.mk (blk_below (g := gb475) (o := .cells #[.int .i64 t463, .int .i64 t464, .int .i64 t465, .slice Ao13 t466.length co13] 29 (0, 0)) (pB4_ BK475.out) hb); have n4_ := Aside0.mk (blk_below (g := gb476) (o := .cells #[.int .i64 t469, .int .i64 t470, .int .i64 t471, .slice Ao15 t472.length co15] 29 (0, 0)) (pB4_ BK476.out) hb); have n5_ := Aside0.mk (below_step z4_0 hb); clear HO_6; clear HO_476003; clear HO_477003; clear BK475; clear BK476; clear HB; have HO_6 := n0_; have HO_476003 := n1_; have HO_477003 := n2_; have BK475 := n3_; have BK476 := n4_; have HB := n5_; clear n0_ n1_ n2_ n3_ n4_ n5_; (try clear hb); (try clear hb2); (try clear hk); (try clear hi); have hcz104_0 : w103.cell? ⟨gb475, 0, none⟩ = some (.int .i64 t463) := (bC_ BK475.out 0).trans rfl; have hcz104_1 : w103.cell? ⟨gb475, 1, none⟩ = some (.int .i64 t464) := (bC_ BK475.out 1).trans rfl; have hcz104_2 : w103.cell? ⟨gb475, 2, none⟩ = some (.int .i64 t465) := (bC_ BK475.out 2).trans rfl; have hcz104_3 : w103.cell? ⟨gb475, 3, none⟩ = some (.slice Ao13 t466.length co13) := (bC_ BK475.out 3).trans rfl; have hfz104_0 := bF_ BK475.out 0; have hfz104_1 := bF_ BK475.out 1; have hfz104_2 := bF_ BK475.out 2; have hfz104_3 := bF_ BK475.out 3) | (go_at_call 21; (with_reducible refine (impl_EqualConds.calls k3 t463 t464 t465 _ _ t466 t463 t464 t465 _ _ t466 t514 _ ?side1 ?side2 ?side3 ?side4 A99.out).mono ?_); (case side1 => repeat (first | exact (Kd.S_reads' HO_476003.out).2.2 | (with_reducible refine Kd.C_alloc ?_ _) | (with_reducible refine Kd.C_drewN ?_ _) | (with_reducible refine Kd.C_drew ?_))); (case side2 => exact (Kd.S_reads' HO_476003.out).2.1); (case side3 => repeat (first | exact (Kd.S_reads' HO_476003.out).2.2 | (with_reducible refine Kd.C_alloc ?_ _) | (with_reducible refine Kd.C_drewN ?_ _) | (with_reducible refine Kd.C_drew ?_))); (case side4 => exact (Kd.S_reads' HO_476003.out).2.1); rintro e w105 ⟨rfl, hb⟩; have n0_ := Aside0.mk (Kd.S_below (by (with_reducible repeat (first | apply Kd.S_alloc | apply Kd.S_drewN | apply Kd.S_drew)); exact HO_6.out) hb); have n1_ := Aside0.mk (Kd.S_below z4_5 hb); have n2_ := Aside0.mk (Kd.S_below z4_4 hb); have n3_ := Aside0.mk (blk_below (g := gb475) (o := .cells #[.int .i64 t463, .int .i64 t464, .int .i64 t465, .slice Ao13 t466.length co13] 29 (0, 0)) (pB4_ BK475.out) hb); have n4_ := Aside0.mk (blk_below (g := gb476) (o := .cells #[.int .i64 t469, .int .i64 t470, .int .i64 t471, .slice Ao15 t472.length co15] 29 (0, 0)) (pB4_ BK476.out) hb); have n5_ := Aside0.mk (below_step z4_0 hb); clear HO_6; clear HO_476003; clear HO_477003; clear BK475; clear BK476; clear HB; have HO_6 := n0_; have HO_476003 := n1_; have HO_477003 := n2_; have BK475 := n3_; have BK476 := n4_; have HB := n5_; clear n0_ n1_ n2_ n3_ n4_ n5_; (try clear hb); (try clear hb2); (try clear hk); (try clear hi)))
                        go_ret
                        exact ⟨by first | rfl | (simp [errW_none, errW_some] <;> rfl) | (simp [*, errW_none, errW_some] <;> rfl), by repeat (first | (with_reducible first | exact HB.out | apply bA_ | apply bN_ | apply bD_ | refine bS_ ?_ GE475.out | refine bS_ ?_ GE476.out) | exact HB.out)⟩
                      · rw [if_neg c98] at H
                        have c98b0 : decide ((t510.length : Int) ≤ t513) = false := decide_eq_false c98
                        clear c98
                        exact absurd ((Option.some.inj H).trans hr_.out) (by decide)

/-- THE ONE PURE STATEMENT of laws_FnConditions. -/
def laws_FnConditions.Pure : Prop := ∀ (l0 : List Int), ((l0.length ≤ maxLen ∧ ∀ y2 ∈ l0, (Lit.int .u8 y2).wf = true)) → ∃ k, laws_FnConditions.f k l0 = some true

end Go.Proofs.Ythjhenhmjmpkaaa.XFnConditions
