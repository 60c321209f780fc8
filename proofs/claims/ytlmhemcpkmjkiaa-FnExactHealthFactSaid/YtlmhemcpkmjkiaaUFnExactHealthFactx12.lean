/- Written by this session's own program (wip/xprint, which runs over the kit's print): what the functions that the law reaches come to, each proved; and the law's row. Conditions: none. -/
import Derived.Test.YtlmhemcpkmjkiaaUFnExactHealthFactx0
import Derived.Test.YtlmhemcpkmjkiaaUFnExactHealthFactx2
import Derived.Test.YtlmhemcpkmjkiaaUFnExactHealthFactx6
import Derived.Test.YtlmhemcpkmjkiaaUFnExactHealthFactx10
import Derived.Test.YtlmhemcpkmjkiaaUFnExactHealthFactx11
namespace Go.Proofs.Ytlmhemcpkmjkiaa.XFnExactHealthFact
open Go.RowKit Go.Proofs.YtlmhemcpkmjkiaaW.PrintWords Go.Proofs.YtlmhemcpkmjkiaaW.PrintLast Go.Proofs.YtlmhemcpkmjkiaaW.PrintMore
attribute [local go_sem] max2_int min2_int max_two min_two max_three min_three max_four min_four   -- for this text's walks alone
set_option linter.unusedVariables false
set_option linter.unusedSimpArgs false

/-! ### laws_FnExactHealthFact: function 14 -/
def laws_FnExactHealthFact.j0 : Nat → List Int → List Int → Bool → Int → List Int → List Int → List Int → Int → List Int → List Int → List Int → Option (Bool)
  | 0, _, _, _, _, _, _, _, _, _, _, _ => none
  | k + 1, x3, x19, x68, x316000, x316001, x316002, x316003, x355000, x355001, x355002, x355003 => if x68 = true then (some false) else ((laws_toAllowed.f k x316000 x316001 x316002 x316003).bind fun bt372 => ((laws_eqAllowed.f k x355000 x355001 x355002 x355003 bt372.1 bt372.2.1 bt372.2.2.1 bt372.2.2.2).bind fun t382 => (if t382 = true then ((laws_toIntS.f k x3).bind fun t383 => ((laws_eqIntS.f k x19 t383).bind fun t386 => (if t386 = true then (some true) else (some false)))) else (some false))))
def laws_FnExactHealthFact.f (k : Nat) (a0_0 : Int) (l0_1 : List Int) (l0_2 : List Int) (l0_3 : List Int) (a1 : Int) (a2_0 : Int) (a2_1 : Int) (a2_2 : Int) (a2_3 : Int) (a2_4 : Int) (l3 : List Int) (a4 : Int) (a5 : Int) (a6 : Int) : Option (Bool) := if (l3.length : Int) > 1048576 then (some true) else ((laws_szAllowed.f a0_0 l0_1 l0_2 l0_3 1048576).bind fun t317 => (if t317 < 0 then (some true) else ((laws_toAllowed.f k a0_0 l0_1 l0_2 l0_3).bind fun bt318 => ((laws_toQuote.f a2_0 a2_1 a2_2 a2_3 a2_4).bind fun bt328 => ((laws_toIntS.f k l3).bind fun t333 => ((spec_HealthFact.f k bt318.1 bt318.2.1 bt318.2.2.1 bt318.2.2.2 a1 bt328.1 bt328.2.1 bt328.2.2.1 bt328.2.2.2.1 bt328.2.2.2.2 t333 a4 a5 a6).bind fun bt336 => ((laws_toAllowed.f k a0_0 l0_1 l0_2 l0_3).bind fun bt344 => ((laws_toIntS.f k l3).bind fun t355 => ((laws_toQuote.f a2_0 a2_1 a2_2 a2_3 a2_4).bind fun bt358 => ((impl_HealthFact.f k bt344.1 bt344.2.1 bt344.2.2.1 bt344.2.2.2 a1 bt358.1 bt358.2.1 bt358.2.2.1 bt358.2.2.2.1 bt358.2.2.2.2 t355 a4 a5 a6).bind fun bt363 => ((laws_eqFact.f bt363.1 bt363.2.1 bt363.2.2.1 bt363.2.2.2.1 bt363.2.2.2.2.1 bt363.2.2.2.2.2.1 bt336.1 bt336.2.1 bt336.2.2.1 bt336.2.2.2.1 bt336.2.2.2.2.1 bt336.2.2.2.2.2.1).bind fun t371 => (if t371 = true then (laws_FnExactHealthFact.j0 k l3 t355 (bt363.2.2.2.2.2.2 != bt336.2.2.2.2.2.2) a0_0 l0_1 l0_2 l0_3 bt344.1 bt344.2.1 bt344.2.2.1 bt344.2.2.2) else (laws_FnExactHealthFact.j0 k l3 t355 true a0_0 l0_1 l0_2 l0_3 bt344.1 bt344.2.1 bt344.2.2.1 bt344.2.2.2)))))))))))))
def laws_FnExactHealthFact.T7 : Bool × List (List Nat × List Nat) := (true, [([], []), ([0], [0]), ([], []), ([], []), ([3, 1], [3]), ([], []), ([5, 4], [5]), ([], []), ([], []), ([], []), ([1, 2, 4, 6, 7, 8, 9, 6], [1, 2, 4, 6, 7, 8, 9]), ([10], [10]), ([11], [11]), ([11], [11]), ([], []), ([14, 12, 10, 0, 1, 2, 3, 4, 5, 6, 7, 8, 9, 10, 11, 12, 14], [12, 14]), ([13, 15, 0, 1, 2, 3, 4, 5, 6, 7, 8, 9, 10, 11, 12, 13, 14, 15], [13])])
def laws_FnExactHealthFact.B7 : List Nat := [0, 1, 0, 0, 11, 0, 59, 0, 0, 0, 1023, 2047, 4095, 4095, 0, 24575, 65535]
theorem laws_FnExactHealthFact.tab7 : rtab .any (opsOf Try.f14 7) = laws_FnExactHealthFact.T7 := by kernel_rfl
theorem laws_FnExactHealthFact.bits7 : waitsOk laws_FnExactHealthFact.T7.2 laws_FnExactHealthFact.B7 = true := by kernel_rfl
def laws_FnExactHealthFact.T10 : Bool × List (List Nat × List Nat) := (true, [([], []), ([], []), ([], []), ([2], [2]), ([], []), ([], []), ([], []), ([], []), ([0, 1, 3, 4, 5, 6, 7, 3], [0, 1, 3, 4, 5, 6, 7]), ([8], [8]), ([9], [9]), ([9], [9]), ([], []), ([12, 10, 8, 0, 1, 2, 3, 4, 5, 6, 7, 8, 9, 10, 12], [10, 12]), ([11, 13, 0, 1, 2, 3, 4, 5, 6, 7, 8, 9, 10, 11, 12, 13], [11])])
def laws_FnExactHealthFact.B10 : List Nat := [0, 0, 0, 4, 0, 0, 0, 0, 255, 511, 1023, 1023, 0, 6143, 16383]
theorem laws_FnExactHealthFact.tab10 : rtab .any (opsOf Try.f14 10) = laws_FnExactHealthFact.T10 := by kernel_rfl
theorem laws_FnExactHealthFact.bits10 : waitsOk laws_FnExactHealthFact.T10.2 laws_FnExactHealthFact.B10 = true := by kernel_rfl
theorem pB14_ {P Q : Prop} (h : P) (g : P → Q := by intro h_; (with_reducible repeat (first | refine blk_drewN ?_ _ | refine blk_drew ?_ | refine blk_alloc ?_ _)); exact h_) : Q := g h
theorem pR14_ {P Q : Prop} (h : P) (g : P → Q := by intro h_; (with_reducible repeat (first | apply Kd.R_alloc | apply Kd.R_drewN | apply Kd.R_drew)); exact h_) : Q := g h
theorem z14_0 {Q : Prop} (g : Q := by repeat (first | (with_reducible first | exact HB.out | apply below_alloc | apply pw_below_drewN | apply below_drew1 | refine below_set ?_ GE315.out | refine below_set ?_ GE316.out | refine below_set ?_ GE343.out) | exact HB.out)) : Q := g
theorem z14_1 {Q : Prop} (g : Q := by repeat (first | (with_reducible first | exact HB.out | apply below_alloc | apply pw_below_drewN | apply below_drew1 | refine below_set ?_ GE315.out | refine below_set ?_ GE316.out) | exact HB.out)) : Q := g
theorem z14_2 {Q : Prop} (g : Q := by repeat (first | (with_reducible first | exact HB.out | apply below_alloc | apply pw_below_drewN | apply below_drew1 | refine below_set ?_ GE315.out | refine below_set ?_ GE316.out | refine below_set ?_ GE343.out | refine below_set ?_ GE354.out | refine below_set ?_ GE370.out) | exact HB.out)) : Q := g
theorem z14_3 {Q : Prop} (g : Q := by repeat (first | (with_reducible first | exact HB.out | apply below_alloc | apply pw_below_drewN | apply below_drew1 | refine below_set ?_ GE315.out | refine below_set ?_ GE316.out | refine below_set ?_ GE343.out | refine below_set ?_ GE354.out) | exact HB.out)) : Q := g
theorem z14_4 {Q : Prop} (g : Q := by (try simp only [List.map_toArray, List.map_cons, List.map_nil]); first | done | rfl | (simp only [List.length_drop, List.length_take]; rfl)) : Q := g
theorem z14_5 {Q : Prop} (g : Q := by first | (simp only [putAll, Act.put, List.setIfInBounds_toArray, List.set_cons_zero, List.set_cons_succ]; done) | (simp only [putAll, Act.put, List.setIfInBounds_toArray, List.set_cons_zero, List.set_cons_succ]; rfl)) : Q := g
theorem z14_6 {Q : Prop} (g : Q := by rw [hg]; exact Nat.ne_of_lt (blk_lt (g := gb315) (o := .cells #[.int .i64 a0_0, .slice A0_1 l0_1.length c0_1, .slice A0_2 l0_2.length c0_2, .slice A0_3 l0_3.length c0_3] 30 (0, 0)) (pB14_ BK315.out))) : Q := g
theorem z14_7 {Q : Prop} (g : Q := by rw [hg]; exact Nat.ne_of_gt (blk_lt (g := gb315) (o := .cells #[.int .i64 a0_0, .slice A0_1 l0_1.length c0_1, .slice A0_2 l0_2.length c0_2, .slice A0_3 l0_3.length c0_3] 30 (0, 0)) (pB14_ BK315.out))) : Q := g
theorem z14_8 {Q : Prop} (g : Q := by (with_reducible repeat (first | apply Kd.R_alloc | apply Kd.R_drewN | apply Kd.R_drew)); exact (Kd.R_mono (Kd.R_far (p := ⟨gb343, 5, none⟩) (Kd.R_far (p := ⟨gb343, 4, none⟩) (Kd.R_far (p := ⟨gb343, 3, none⟩) (Kd.R_far (p := ⟨gb343, 2, none⟩) (Kd.R_far (p := ⟨gb343, 1, none⟩) (Kd.R_far (p := ⟨gb343, 0, none⟩) (Kd.R_types HO335.out BK343.out (by decide)) (fun _ hk => hk.2) (.int .i64 t336)) (fun _ hk => hk.2) (.int .i64 t337)) (fun _ hk => hk.2) (.int .i64 t338)) (fun _ hk => hk.2) (.int .i64 t339)) (fun _ hk => hk.2) (.int .i64 t340)) (fun _ hk => hk.2) (.int .i64 t341)) (fun _ h_ => h_.1))) : Q := g
theorem z14_9 {Q : Prop} (g : Q := by (with_reducible repeat (first | apply Kd.R_alloc | apply Kd.R_drewN | apply Kd.R_drew)); exact (Kd.R_mono (Kd.R_far (p := ⟨gb343, 5, none⟩) (Kd.R_far (p := ⟨gb343, 4, none⟩) (Kd.R_far (p := ⟨gb343, 3, none⟩) (Kd.R_far (p := ⟨gb343, 2, none⟩) (Kd.R_far (p := ⟨gb343, 1, none⟩) (Kd.R_far (p := ⟨gb343, 0, none⟩) (Kd.R_types HO327.out BK343.out (by decide)) (fun _ hk => hk.2) (.int .i64 t336)) (fun _ hk => hk.2) (.int .i64 t337)) (fun _ hk => hk.2) (.int .i64 t338)) (fun _ hk => hk.2) (.int .i64 t339)) (fun _ hk => hk.2) (.int .i64 t340)) (fun _ hk => hk.2) (.int .i64 t341)) (fun _ h_ => h_.1))) : Q := g
theorem z14_10 {Q : Prop} (g : Q := by (with_reducible repeat (first | apply Kd.R_alloc | apply Kd.R_drewN | apply Kd.R_drew)); exact (Kd.R_mono (Kd.R_far (p := ⟨gb343, 5, none⟩) (Kd.R_far (p := ⟨gb343, 4, none⟩) (Kd.R_far (p := ⟨gb343, 3, none⟩) (Kd.R_far (p := ⟨gb343, 2, none⟩) (Kd.R_far (p := ⟨gb343, 1, none⟩) (Kd.R_far (p := ⟨gb343, 0, none⟩) (Kd.R_types HO324.out BK343.out (by decide)) (fun _ hk => hk.2) (.int .i64 t336)) (fun _ hk => hk.2) (.int .i64 t337)) (fun _ hk => hk.2) (.int .i64 t338)) (fun _ hk => hk.2) (.int .i64 t339)) (fun _ hk => hk.2) (.int .i64 t340)) (fun _ hk => hk.2) (.int .i64 t341)) (fun _ h_ => h_.1))) : Q := g
theorem z14_11 {Q : Prop} (g : Q := by (with_reducible repeat (first | apply Kd.R_alloc | apply Kd.R_drewN | apply Kd.R_drew)); exact (Kd.R_mono (Kd.R_far (p := ⟨gb343, 5, none⟩) (Kd.R_far (p := ⟨gb343, 4, none⟩) (Kd.R_far (p := ⟨gb343, 3, none⟩) (Kd.R_far (p := ⟨gb343, 2, none⟩) (Kd.R_far (p := ⟨gb343, 1, none⟩) (Kd.R_far (p := ⟨gb343, 0, none⟩) (Kd.R_types HO321.out BK343.out (by decide)) (fun _ hk => hk.2) (.int .i64 t336)) (fun _ hk => hk.2) (.int .i64 t337)) (fun _ hk => hk.2) (.int .i64 t338)) (fun _ hk => hk.2) (.int .i64 t339)) (fun _ hk => hk.2) (.int .i64 t340)) (fun _ hk => hk.2) (.int .i64 t341)) (fun _ h_ => h_.1))) : Q := g
theorem z14_12 {Q : Prop} (g : Q := by (with_reducible repeat (first | refine blk_drewN ?_ _ | refine blk_drew ?_ | refine blk_alloc ?_ _)); refine blk_put (cs := #[.int .i64 t363, .int .i64 t364, .int .i64 t365, .int .i64 t366, .int .i64 t367, .int .i64 0]) ?_ 5 _ rfl; (with_reducible repeat (first | refine blk_drewN ?_ _ | refine blk_drew ?_ | refine blk_alloc ?_ _)); refine blk_put (cs := #[.int .i64 t363, .int .i64 t364, .int .i64 t365, .int .i64 t366, .int .i64 0, .int .i64 0]) ?_ 4 _ rfl; (with_reducible repeat (first | refine blk_drewN ?_ _ | refine blk_drew ?_ | refine blk_alloc ?_ _)); refine blk_put (cs := #[.int .i64 t363, .int .i64 t364, .int .i64 t365, .int .i64 0, .int .i64 0, .int .i64 0]) ?_ 3 _ rfl; (with_reducible repeat (first | refine blk_drewN ?_ _ | refine blk_drew ?_ | refine blk_alloc ?_ _)); refine blk_put (cs := #[.int .i64 t363, .int .i64 t364, .int .i64 0, .int .i64 0, .int .i64 0, .int .i64 0]) ?_ 2 _ rfl; (with_reducible repeat (first | refine blk_drewN ?_ _ | refine blk_drew ?_ | refine blk_alloc ?_ _)); refine blk_put (cs := #[.int .i64 t363, .int .i64 0, .int .i64 0, .int .i64 0, .int .i64 0, .int .i64 0]) ?_ 1 _ rfl; (with_reducible repeat (first | refine blk_drewN ?_ _ | refine blk_drew ?_ | refine blk_alloc ?_ _)); refine blk_put (cs := #[.int .i64 0, .int .i64 0, .int .i64 0, .int .i64 0, .int .i64 0, .int .i64 0]) ?_ 0 _ rfl; (with_reducible repeat (first | refine blk_drewN ?_ _ | refine blk_drew ?_ | refine blk_alloc ?_ _)); exact BK370.out) : Q := g
theorem z14_13 {Q : Prop} (g : Q := by rw [hg]; exact Nat.ne_of_lt (blk_lt (g := gb316) (o := .cells #[.int .i64 a2_0, .int .i64 a2_1, .int .i64 a2_2, .int .i64 a2_3, .int .i64 a2_4] 50 (0, 0)) (pB14_ BK316.out))) : Q := g
theorem z14_14 {Q : Prop} (g : Q := by rw [hg]; exact Nat.ne_of_gt (blk_lt (g := gb316) (o := .cells #[.int .i64 a2_0, .int .i64 a2_1, .int .i64 a2_2, .int .i64 a2_3, .int .i64 a2_4] 50 (0, 0)) (pB14_ BK316.out))) : Q := g
theorem z14_15 {Q : Prop} (g : Q := by repeat (first | (with_reducible first | exact HB.out | apply below_alloc | apply pw_below_drewN | apply below_drew1 | refine below_set ?_ GE315.out) | exact HB.out)) : Q := g
theorem z14_16 {Q : Prop} (g : Q := by repeat (first | (with_reducible first | exact HB.out | apply below_alloc | apply pw_below_drewN | apply below_drew1) | exact HB.out)) : Q := g
theorem z14_17 {Q : Prop} (g : Q := by (with_reducible repeat (first | refine blk_drewN ?_ _ | refine blk_drew ?_ | refine blk_alloc ?_ _)); refine blk_far ?_ NB354_370.out _; (with_reducible repeat (first | refine blk_drewN ?_ _ | refine blk_drew ?_ | refine blk_alloc ?_ _)); refine blk_far ?_ NB354_370.out _; (with_reducible repeat (first | refine blk_drewN ?_ _ | refine blk_drew ?_ | refine blk_alloc ?_ _)); refine blk_far ?_ NB354_370.out _; (with_reducible repeat (first | refine blk_drewN ?_ _ | refine blk_drew ?_ | refine blk_alloc ?_ _)); refine blk_far ?_ NB354_370.out _; (with_reducible repeat (first | refine blk_drewN ?_ _ | refine blk_drew ?_ | refine blk_alloc ?_ _)); refine blk_far ?_ NB354_370.out _; (with_reducible repeat (first | refine blk_drewN ?_ _ | refine blk_drew ?_ | refine blk_alloc ?_ _)); refine blk_far ?_ NB354_370.out _; (with_reducible repeat (first | refine blk_drewN ?_ _ | refine blk_drew ?_ | refine blk_alloc ?_ _)); exact BK354.out) : Q := g
theorem z14_18 {Q : Prop} (g : Q := by (with_reducible repeat (first | refine blk_drewN ?_ _ | refine blk_drew ?_ | refine blk_alloc ?_ _)); refine blk_far ?_ NB343_370.out _; (with_reducible repeat (first | refine blk_drewN ?_ _ | refine blk_drew ?_ | refine blk_alloc ?_ _)); refine blk_far ?_ NB343_370.out _; (with_reducible repeat (first | refine blk_drewN ?_ _ | refine blk_drew ?_ | refine blk_alloc ?_ _)); refine blk_far ?_ NB343_370.out _; (with_reducible repeat (first | refine blk_drewN ?_ _ | refine blk_drew ?_ | refine blk_alloc ?_ _)); refine blk_far ?_ NB343_370.out _; (with_reducible repeat (first | refine blk_drewN ?_ _ | refine blk_drew ?_ | refine blk_alloc ?_ _)); refine blk_far ?_ NB343_370.out _; (with_reducible repeat (first | refine blk_drewN ?_ _ | refine blk_drew ?_ | refine blk_alloc ?_ _)); refine blk_far ?_ NB343_370.out _; (with_reducible repeat (first | refine blk_drewN ?_ _ | refine blk_drew ?_ | refine blk_alloc ?_ _)); exact BK343.out) : Q := g
theorem z14_19 {Q : Prop} (g : Q := by (with_reducible repeat (first | refine blk_drewN ?_ _ | refine blk_drew ?_ | refine blk_alloc ?_ _)); refine blk_far ?_ NB316_370.out _; (with_reducible repeat (first | refine blk_drewN ?_ _ | refine blk_drew ?_ | refine blk_alloc ?_ _)); refine blk_far ?_ NB316_370.out _; (with_reducible repeat (first | refine blk_drewN ?_ _ | refine blk_drew ?_ | refine blk_alloc ?_ _)); refine blk_far ?_ NB316_370.out _; (with_reducible repeat (first | refine blk_drewN ?_ _ | refine blk_drew ?_ | refine blk_alloc ?_ _)); refine blk_far ?_ NB316_370.out _; (with_reducible repeat (first | refine blk_drewN ?_ _ | refine blk_drew ?_ | refine blk_alloc ?_ _)); refine blk_far ?_ NB316_370.out _; (with_reducible repeat (first | refine blk_drewN ?_ _ | refine blk_drew ?_ | refine blk_alloc ?_ _)); refine blk_far ?_ NB316_370.out _; (with_reducible repeat (first | refine blk_drewN ?_ _ | refine blk_drew ?_ | refine blk_alloc ?_ _)); exact BK316.out) : Q := g
theorem z14_20 {Q : Prop} (g : Q := by (with_reducible repeat (first | refine blk_drewN ?_ _ | refine blk_drew ?_ | refine blk_alloc ?_ _)); refine blk_far ?_ NB315_370.out _; (with_reducible repeat (first | refine blk_drewN ?_ _ | refine blk_drew ?_ | refine blk_alloc ?_ _)); refine blk_far ?_ NB315_370.out _; (with_reducible repeat (first | refine blk_drewN ?_ _ | refine blk_drew ?_ | refine blk_alloc ?_ _)); refine blk_far ?_ NB315_370.out _; (with_reducible repeat (first | refine blk_drewN ?_ _ | refine blk_drew ?_ | refine blk_alloc ?_ _)); refine blk_far ?_ NB315_370.out _; (with_reducible repeat (first | refine blk_drewN ?_ _ | refine blk_drew ?_ | refine blk_alloc ?_ _)); refine blk_far ?_ NB315_370.out _; (with_reducible repeat (first | refine blk_drewN ?_ _ | refine blk_drew ?_ | refine blk_alloc ?_ _)); refine blk_far ?_ NB315_370.out _; (with_reducible repeat (first | refine blk_drewN ?_ _ | refine blk_drew ?_ | refine blk_alloc ?_ _)); exact BK315.out) : Q := g
theorem z14_21 {Q : Prop} (g : Q := by (with_reducible repeat (first | apply Kd.R_alloc | apply Kd.R_drewN | apply Kd.R_drew)); exact (Kd.R_mono (Kd.R_far (p := ⟨gb370, 5, none⟩) (Kd.R_far (p := ⟨gb370, 4, none⟩) (Kd.R_far (p := ⟨gb370, 3, none⟩) (Kd.R_far (p := ⟨gb370, 2, none⟩) (Kd.R_far (p := ⟨gb370, 1, none⟩) (Kd.R_far (p := ⟨gb370, 0, none⟩) (Kd.R_types HO357.out BK370.out (by decide)) (fun _ hk => hk.2) (.int .i64 t363)) (fun _ hk => hk.2) (.int .i64 t364)) (fun _ hk => hk.2) (.int .i64 t365)) (fun _ hk => hk.2) (.int .i64 t366)) (fun _ hk => hk.2) (.int .i64 t367)) (fun _ hk => hk.2) (.int .i64 t368)) (fun _ h_ => h_.1))) : Q := g
theorem z14_22 {Q : Prop} (g : Q := by (with_reducible repeat (first | apply Kd.R_alloc | apply Kd.R_drewN | apply Kd.R_drew)); exact (Kd.R_mono (Kd.R_far (p := ⟨gb370, 5, none⟩) (Kd.R_far (p := ⟨gb370, 4, none⟩) (Kd.R_far (p := ⟨gb370, 3, none⟩) (Kd.R_far (p := ⟨gb370, 2, none⟩) (Kd.R_far (p := ⟨gb370, 1, none⟩) (Kd.R_far (p := ⟨gb370, 0, none⟩) (Kd.R_types HO353.out BK370.out (by decide)) (fun _ hk => hk.2) (.int .i64 t363)) (fun _ hk => hk.2) (.int .i64 t364)) (fun _ hk => hk.2) (.int .i64 t365)) (fun _ hk => hk.2) (.int .i64 t366)) (fun _ hk => hk.2) (.int .i64 t367)) (fun _ hk => hk.2) (.int .i64 t368)) (fun _ h_ => h_.1))) : Q := g
theorem z14_23 {Q : Prop} (g : Q := by (with_reducible repeat (first | apply Kd.R_alloc | apply Kd.R_drewN | apply Kd.R_drew)); exact (Kd.R_mono (Kd.R_far (p := ⟨gb370, 5, none⟩) (Kd.R_far (p := ⟨gb370, 4, none⟩) (Kd.R_far (p := ⟨gb370, 3, none⟩) (Kd.R_far (p := ⟨gb370, 2, none⟩) (Kd.R_far (p := ⟨gb370, 1, none⟩) (Kd.R_far (p := ⟨gb370, 0, none⟩) (Kd.R_types HO350.out BK370.out (by decide)) (fun _ hk => hk.2) (.int .i64 t363)) (fun _ hk => hk.2) (.int .i64 t364)) (fun _ hk => hk.2) (.int .i64 t365)) (fun _ hk => hk.2) (.int .i64 t366)) (fun _ hk => hk.2) (.int .i64 t367)) (fun _ hk => hk.2) (.int .i64 t368)) (fun _ h_ => h_.1))) : Q := g
theorem z14_24 {Q : Prop} (g : Q := by (with_reducible repeat (first | apply Kd.R_alloc | apply Kd.R_drewN | apply Kd.R_drew)); exact (Kd.R_mono (Kd.R_far (p := ⟨gb370, 5, none⟩) (Kd.R_far (p := ⟨gb370, 4, none⟩) (Kd.R_far (p := ⟨gb370, 3, none⟩) (Kd.R_far (p := ⟨gb370, 2, none⟩) (Kd.R_far (p := ⟨gb370, 1, none⟩) (Kd.R_far (p := ⟨gb370, 0, none⟩) (Kd.R_types HO347.out BK370.out (by decide)) (fun _ hk => hk.2) (.int .i64 t363)) (fun _ hk => hk.2) (.int .i64 t364)) (fun _ hk => hk.2) (.int .i64 t365)) (fun _ hk => hk.2) (.int .i64 t366)) (fun _ hk => hk.2) (.int .i64 t367)) (fun _ hk => hk.2) (.int .i64 t368)) (fun _ h_ => h_.1))) : Q := g
theorem z14_25 {Q : Prop} (g : Q := by (with_reducible repeat (first | apply Kd.R_alloc | apply Kd.R_drewN | apply Kd.R_drew)); exact (Kd.R_mono (Kd.R_far (p := ⟨gb370, 5, none⟩) (Kd.R_far (p := ⟨gb370, 4, none⟩) (Kd.R_far (p := ⟨gb370, 3, none⟩) (Kd.R_far (p := ⟨gb370, 2, none⟩) (Kd.R_far (p := ⟨gb370, 1, none⟩) (Kd.R_far (p := ⟨gb370, 0, none⟩) (Kd.R_types HO335.out BK370.out (by decide)) (fun _ hk => hk.2) (.int .i64 t363)) (fun _ hk => hk.2) (.int .i64 t364)) (fun _ hk => hk.2) (.int .i64 t365)) (fun _ hk => hk.2) (.int .i64 t366)) (fun _ hk => hk.2) (.int .i64 t367)) (fun _ hk => hk.2) (.int .i64 t368)) (fun _ h_ => h_.1))) : Q := g
theorem z14_26 {Q : Prop} (g : Q := by (with_reducible repeat (first | apply Kd.R_alloc | apply Kd.R_drewN | apply Kd.R_drew)); exact (Kd.R_mono (Kd.R_far (p := ⟨gb370, 5, none⟩) (Kd.R_far (p := ⟨gb370, 4, none⟩) (Kd.R_far (p := ⟨gb370, 3, none⟩) (Kd.R_far (p := ⟨gb370, 2, none⟩) (Kd.R_far (p := ⟨gb370, 1, none⟩) (Kd.R_far (p := ⟨gb370, 0, none⟩) (Kd.R_types HO327.out BK370.out (by decide)) (fun _ hk => hk.2) (.int .i64 t363)) (fun _ hk => hk.2) (.int .i64 t364)) (fun _ hk => hk.2) (.int .i64 t365)) (fun _ hk => hk.2) (.int .i64 t366)) (fun _ hk => hk.2) (.int .i64 t367)) (fun _ hk => hk.2) (.int .i64 t368)) (fun _ h_ => h_.1))) : Q := g
theorem z14_27 {Q : Prop} (g : Q := by (with_reducible repeat (first | apply Kd.R_alloc | apply Kd.R_drewN | apply Kd.R_drew)); exact (Kd.R_mono (Kd.R_far (p := ⟨gb370, 5, none⟩) (Kd.R_far (p := ⟨gb370, 4, none⟩) (Kd.R_far (p := ⟨gb370, 3, none⟩) (Kd.R_far (p := ⟨gb370, 2, none⟩) (Kd.R_far (p := ⟨gb370, 1, none⟩) (Kd.R_far (p := ⟨gb370, 0, none⟩) (Kd.R_types HO324.out BK370.out (by decide)) (fun _ hk => hk.2) (.int .i64 t363)) (fun _ hk => hk.2) (.int .i64 t364)) (fun _ hk => hk.2) (.int .i64 t365)) (fun _ hk => hk.2) (.int .i64 t366)) (fun _ hk => hk.2) (.int .i64 t367)) (fun _ hk => hk.2) (.int .i64 t368)) (fun _ h_ => h_.1))) : Q := g
theorem z14_28 {Q : Prop} (g : Q := by (with_reducible repeat (first | apply Kd.R_alloc | apply Kd.R_drewN | apply Kd.R_drew)); exact (Kd.R_mono (Kd.R_far (p := ⟨gb370, 5, none⟩) (Kd.R_far (p := ⟨gb370, 4, none⟩) (Kd.R_far (p := ⟨gb370, 3, none⟩) (Kd.R_far (p := ⟨gb370, 2, none⟩) (Kd.R_far (p := ⟨gb370, 1, none⟩) (Kd.R_far (p := ⟨gb370, 0, none⟩) (Kd.R_types HO321.out BK370.out (by decide)) (fun _ hk => hk.2) (.int .i64 t363)) (fun _ hk => hk.2) (.int .i64 t364)) (fun _ hk => hk.2) (.int .i64 t365)) (fun _ hk => hk.2) (.int .i64 t366)) (fun _ hk => hk.2) (.int .i64 t367)) (fun _ hk => hk.2) (.int .i64 t368)) (fun _ h_ => h_.1))) : Q := g
theorem z14_29 {Q : Prop} (g : Q := by rw [hg]; exact Nat.ne_of_lt (blk_lt (g := gb343) (o := .cells #[.int .i64 t336, .int .i64 t337, .int .i64 t338, .int .i64 t339, .int .i64 t340, .int .i64 t341] 83 (0, 0)) (pB14_ BK343.out))) : Q := g
theorem z14_30 {Q : Prop} (g : Q := by rw [hg]; exact Nat.ne_of_gt (blk_lt (g := gb343) (o := .cells #[.int .i64 t336, .int .i64 t337, .int .i64 t338, .int .i64 t339, .int .i64 t340, .int .i64 t341] 83 (0, 0)) (pB14_ BK343.out))) : Q := g
theorem z14_31 {Q : Prop} (g : Q := by (with_reducible repeat (first | apply Kd.R_alloc | apply Kd.R_drewN | apply Kd.R_drew)); exact (Kd.R_mono (Kd.R_far (p := ⟨gb354, 3, none⟩) (Kd.R_far (p := ⟨gb354, 2, none⟩) (Kd.R_far (p := ⟨gb354, 1, none⟩) (Kd.R_far (p := ⟨gb354, 0, none⟩) (Kd.R_types HO353.out BK354.out (by decide)) (fun _ hk => hk.2) (.int .i64 t344)) (fun _ hk => hk.2) (.slice Ao57 t345.length co57)) (fun _ hk => hk.2) (.slice Ao58 t348.length co58)) (fun _ hk => hk.2) (.slice Ao59 t351.length co59)) (fun _ h_ => h_.1))) : Q := g
theorem z14_32 {Q : Prop} (g : Q := by (with_reducible repeat (first | apply Kd.R_alloc | apply Kd.R_drewN | apply Kd.R_drew)); exact (Kd.R_mono (Kd.R_far (p := ⟨gb354, 3, none⟩) (Kd.R_far (p := ⟨gb354, 2, none⟩) (Kd.R_far (p := ⟨gb354, 1, none⟩) (Kd.R_far (p := ⟨gb354, 0, none⟩) (Kd.R_types HO350.out BK354.out (by decide)) (fun _ hk => hk.2) (.int .i64 t344)) (fun _ hk => hk.2) (.slice Ao57 t345.length co57)) (fun _ hk => hk.2) (.slice Ao58 t348.length co58)) (fun _ hk => hk.2) (.slice Ao59 t351.length co59)) (fun _ h_ => h_.1))) : Q := g
theorem z14_33 {Q : Prop} (g : Q := by (with_reducible repeat (first | apply Kd.R_alloc | apply Kd.R_drewN | apply Kd.R_drew)); exact (Kd.R_mono (Kd.R_far (p := ⟨gb354, 3, none⟩) (Kd.R_far (p := ⟨gb354, 2, none⟩) (Kd.R_far (p := ⟨gb354, 1, none⟩) (Kd.R_far (p := ⟨gb354, 0, none⟩) (Kd.R_types HO347.out BK354.out (by decide)) (fun _ hk => hk.2) (.int .i64 t344)) (fun _ hk => hk.2) (.slice Ao57 t345.length co57)) (fun _ hk => hk.2) (.slice Ao58 t348.length co58)) (fun _ hk => hk.2) (.slice Ao59 t351.length co59)) (fun _ h_ => h_.1))) : Q := g
theorem z14_34 {Q : Prop} (g : Q := by (with_reducible repeat (first | apply Kd.R_alloc | apply Kd.R_drewN | apply Kd.R_drew)); exact (Kd.R_mono (Kd.R_far (p := ⟨gb354, 3, none⟩) (Kd.R_far (p := ⟨gb354, 2, none⟩) (Kd.R_far (p := ⟨gb354, 1, none⟩) (Kd.R_far (p := ⟨gb354, 0, none⟩) (Kd.R_types HO335.out BK354.out (by decide)) (fun _ hk => hk.2) (.int .i64 t344)) (fun _ hk => hk.2) (.slice Ao57 t345.length co57)) (fun _ hk => hk.2) (.slice Ao58 t348.length co58)) (fun _ hk => hk.2) (.slice Ao59 t351.length co59)) (fun _ h_ => h_.1))) : Q := g
theorem z14_35 {Q : Prop} (g : Q := by (with_reducible repeat (first | apply Kd.R_alloc | apply Kd.R_drewN | apply Kd.R_drew)); exact (Kd.R_mono (Kd.R_far (p := ⟨gb354, 3, none⟩) (Kd.R_far (p := ⟨gb354, 2, none⟩) (Kd.R_far (p := ⟨gb354, 1, none⟩) (Kd.R_far (p := ⟨gb354, 0, none⟩) (Kd.R_types HO327.out BK354.out (by decide)) (fun _ hk => hk.2) (.int .i64 t344)) (fun _ hk => hk.2) (.slice Ao57 t345.length co57)) (fun _ hk => hk.2) (.slice Ao58 t348.length co58)) (fun _ hk => hk.2) (.slice Ao59 t351.length co59)) (fun _ h_ => h_.1))) : Q := g
theorem z14_36 {Q : Prop} (g : Q := by (with_reducible repeat (first | apply Kd.R_alloc | apply Kd.R_drewN | apply Kd.R_drew)); exact (Kd.R_mono (Kd.R_far (p := ⟨gb354, 3, none⟩) (Kd.R_far (p := ⟨gb354, 2, none⟩) (Kd.R_far (p := ⟨gb354, 1, none⟩) (Kd.R_far (p := ⟨gb354, 0, none⟩) (Kd.R_types HO324.out BK354.out (by decide)) (fun _ hk => hk.2) (.int .i64 t344)) (fun _ hk => hk.2) (.slice Ao57 t345.length co57)) (fun _ hk => hk.2) (.slice Ao58 t348.length co58)) (fun _ hk => hk.2) (.slice Ao59 t351.length co59)) (fun _ h_ => h_.1))) : Q := g
theorem z14_37 {Q : Prop} (g : Q := by (with_reducible repeat (first | apply Kd.R_alloc | apply Kd.R_drewN | apply Kd.R_drew)); exact (Kd.R_mono (Kd.R_far (p := ⟨gb354, 3, none⟩) (Kd.R_far (p := ⟨gb354, 2, none⟩) (Kd.R_far (p := ⟨gb354, 1, none⟩) (Kd.R_far (p := ⟨gb354, 0, none⟩) (Kd.R_types HO321.out BK354.out (by decide)) (fun _ hk => hk.2) (.int .i64 t344)) (fun _ hk => hk.2) (.slice Ao57 t345.length co57)) (fun _ hk => hk.2) (.slice Ao58 t348.length co58)) (fun _ hk => hk.2) (.slice Ao59 t351.length co59)) (fun _ h_ => h_.1))) : Q := g
theorem z14_38 {Q : Prop} (g : Q := by kernel_rfl) : Q := g
theorem z14_39 {Q : Prop} (g : Q := by (with_reducible repeat (first | apply Kd.R_alloc | apply Kd.R_drewN | apply Kd.R_drew)); exact Kd.R_mono HO357.out (fun _ hk => ⟨hk.1.1.1.1.1.1.2, ⟨hk.1.1.1.1.1.2, ⟨hk.1.1.1.1.2, ⟨hk.1.1.1.2, ⟨hk.1.1.2, ⟨hk.1.2, hk.2⟩⟩⟩⟩⟩⟩)) : Q := g
theorem z14_40 {Q : Prop} (g : Q := by (with_reducible repeat (first | apply Kd.R_alloc | apply Kd.R_drewN | apply Kd.R_drew)); exact Kd.R_mono HO353.out (fun _ hk => ⟨hk.1.1.1.1.2, ⟨hk.1.1.1.2, ⟨hk.1.1.2, ⟨hk.1.2, ⟨hk.1.1.1.1.1.1, ⟨hk.1.1.1.1.1.2, hk.2⟩⟩⟩⟩⟩⟩)) : Q := g
theorem z14_41 {Q : Prop} (g : Q := by (with_reducible repeat (first | apply Kd.R_alloc | apply Kd.R_drewN | apply Kd.R_drew)); exact Kd.R_mono HO350.out (fun _ hk => ⟨hk.1.1.1.1.2, ⟨hk.1.1.1.2, ⟨hk.1.1.2, ⟨hk.1.2, ⟨hk.1.1.1.1.1.1, ⟨hk.1.1.1.1.1.2, hk.2⟩⟩⟩⟩⟩⟩)) : Q := g
theorem z14_42 {Q : Prop} (g : Q := by (with_reducible repeat (first | apply Kd.R_alloc | apply Kd.R_drewN | apply Kd.R_drew)); exact Kd.R_mono HO347.out (fun _ hk => ⟨hk.1.1.1.1.2, ⟨hk.1.1.1.2, ⟨hk.1.1.2, ⟨hk.1.2, ⟨hk.1.1.1.1.1.1, ⟨hk.1.1.1.1.1.2, hk.2⟩⟩⟩⟩⟩⟩)) : Q := g
theorem z14_43 {Q : Prop} (g : Q := by (with_reducible repeat (first | apply Kd.R_alloc | apply Kd.R_drewN | apply Kd.R_drew)); exact Kd.R_mono HO335.out (fun _ hk => ⟨hk.1.1.1.1.1, ⟨hk.1.1.1.1.2.1, ⟨hk.1.1.1.1.2.2, ⟨hk.1.1.1.2, ⟨hk.1.1.2, ⟨hk.1.2, hk.2⟩⟩⟩⟩⟩⟩)) : Q := g
theorem z14_44 {Q : Prop} (g : Q := by (with_reducible repeat (first | apply Kd.R_alloc | apply Kd.R_drewN | apply Kd.R_drew)); exact Kd.R_mono HO327.out (fun _ hk => ⟨hk.1.1.1.1.1, ⟨hk.1.1.1.1.2.1, ⟨hk.1.1.1.1.2.2, ⟨hk.1.1.1.2, ⟨hk.1.1.2, ⟨hk.1.2, hk.2⟩⟩⟩⟩⟩⟩)) : Q := g
theorem z14_45 {Q : Prop} (g : Q := by (with_reducible repeat (first | apply Kd.R_alloc | apply Kd.R_drewN | apply Kd.R_drew)); exact Kd.R_mono HO324.out (fun _ hk => ⟨hk.1.1.1.1.1, ⟨hk.1.1.1.1.2.1, ⟨hk.1.1.1.1.2.2, ⟨hk.1.1.1.2, ⟨hk.1.1.2, ⟨hk.1.2, hk.2⟩⟩⟩⟩⟩⟩)) : Q := g
theorem z14_46 {Q : Prop} (g : Q := by (with_reducible repeat (first | apply Kd.R_alloc | apply Kd.R_drewN | apply Kd.R_drew)); exact Kd.R_mono HO321.out (fun _ hk => ⟨hk.1.1.1.1.1, ⟨hk.1.1.1.1.2.1, ⟨hk.1.1.1.1.2.2, ⟨hk.1.1.1.2, ⟨hk.1.1.2, ⟨hk.1.2, hk.2⟩⟩⟩⟩⟩⟩)) : Q := g
theorem z14_47 {Q : Prop} (g : Q := by rw [hg]; exact Nat.ne_of_lt (blk_lt (g := gb354) (o := .cells #[.int .i64 t344, .slice Ao57 t345.length co57, .slice Ao58 t348.length co58, .slice Ao59 t351.length co59] 33 (0, 0)) (pB14_ BK354.out))) : Q := g
theorem z14_48 {Q : Prop} (g : Q := by rw [hg]; exact Nat.ne_of_gt (blk_lt (g := gb354) (o := .cells #[.int .i64 t344, .slice Ao57 t345.length co57, .slice Ao58 t348.length co58, .slice Ao59 t351.length co59] 33 (0, 0)) (pB14_ BK354.out))) : Q := g
theorem z14_49 {Q : Prop} (g : Q := by rw [hg]; exact (below_size z14_1)) : Q := g
set_option maxHeartbeats 8000000 in
set_option maxRecDepth 100000 in
theorem laws_FnExactHealthFact.calls (k : Nat) (a0_0 : Int) (A0_1 : Option Addr) (c0_1 : Nat) (l0_1 : List Int) (A0_2 : Option Addr) (c0_2 : Nat) (l0_2 : List Int) (A0_3 : Option Addr) (c0_3 : Nat) (l0_3 : List Int) (a1 : Int) (a2_0 : Int) (a2_1 : Int) (a2_2 : Int) (a2_3 : Int) (a2_4 : Int) (A3 : Option Addr) (c3 : Nat) (l3 : List Int) (a4 : Int) (a5 : Int) (a6 : Int) (r : Bool) (w : World) (hr0_1 : Kd.C (Kd.int .i64) w A0_1 l0_1.length l0_1) (hc0_1 : l0_1.length ≤ c0_1) (hr0_2 : Kd.C (Kd.int .i64) w A0_2 l0_2.length l0_2) (hc0_2 : l0_2.length ≤ c0_2) (hr0_3 : Kd.C (Kd.int .i64) w A0_3 l0_3.length l0_3) (hc0_3 : l0_3.length ≤ c0_3) (hr3 : Kd.C (Kd.int .i64) w A3 l3.length l3) (hc3 : l3.length ≤ c3) (h : laws_FnExactHealthFact.f k a0_0 l0_1 l0_2 l0_3 a1 a2_0 a2_1 a2_2 a2_3 a2_4 l3 a4 a5 a6 = some r) (hr_ : Aside0 (r = true)) :
    Calls Try.prog 14 #[.agg #[.int .i64 a0_0, .slice A0_1 l0_1.length c0_1, .slice A0_2 l0_2.length c0_2, .slice A0_3 l0_3.length c0_3], .int .i64 a1, .agg #[.int .i64 a2_0, .int .i64 a2_1, .int .i64 a2_2, .int .i64 a2_3, .int .i64 a2_4], .slice A3 l3.length c3, .int .i64 a4, .int .i64 a5, .int .i64 a6] w fun e w' => e = .returned (.bool r) ∧ Below w.heap.size w w' := by
  have hu30 := Try.underlying30
  have hu50 := Try.underlying50
  have hu83 := Try.underlying83
  have hu33 := Try.underlying33
  have HR0_1 := Aside0.mk hr0_1
  have HC0_1 := Aside0.mk hc0_1
  clear hr0_1 hc0_1
  have HR0_2 := Aside0.mk hr0_2
  have HC0_2 := Aside0.mk hc0_2
  clear hr0_2 hc0_2
  have HR0_3 := Aside0.mk hr0_3
  have HC0_3 := Aside0.mk hc0_3
  clear hr0_3 hc0_3
  have HR3 := Aside0.mk hr3
  have HC3 := Aside0.mk hc3
  clear hr3 hc3
  have HB := Aside0.mk (Below.refl w.heap.size w)
  have H : (if (l3.length : Int) > 1048576 then (some true) else ((laws_szAllowed.f a0_0 l0_1 l0_2 l0_3 1048576).bind fun t317 => (if t317 < 0 then (some true) else ((laws_toAllowed.f k a0_0 l0_1 l0_2 l0_3).bind fun bt318 => ((laws_toQuote.f a2_0 a2_1 a2_2 a2_3 a2_4).bind fun bt328 => ((laws_toIntS.f k l3).bind fun t333 => ((spec_HealthFact.f k bt318.1 bt318.2.1 bt318.2.2.1 bt318.2.2.2 a1 bt328.1 bt328.2.1 bt328.2.2.1 bt328.2.2.2.1 bt328.2.2.2.2 t333 a4 a5 a6).bind fun bt336 => ((laws_toAllowed.f k a0_0 l0_1 l0_2 l0_3).bind fun bt344 => ((laws_toIntS.f k l3).bind fun t355 => ((laws_toQuote.f a2_0 a2_1 a2_2 a2_3 a2_4).bind fun bt358 => ((impl_HealthFact.f k bt344.1 bt344.2.1 bt344.2.2.1 bt344.2.2.2 a1 bt358.1 bt358.2.1 bt358.2.2.1 bt358.2.2.2.1 bt358.2.2.2.2 t355 a4 a5 a6).bind fun bt363 => ((laws_eqFact.f bt363.1 bt363.2.1 bt363.2.2.1 bt363.2.2.2.1 bt363.2.2.2.2.1 bt363.2.2.2.2.2.1 bt336.1 bt336.2.1 bt336.2.2.1 bt336.2.2.2.1 bt336.2.2.2.2.1 bt336.2.2.2.2.2.1).bind fun t371 => (if t371 = true then (laws_FnExactHealthFact.j0 k l3 t355 (bt363.2.2.2.2.2.2 != bt336.2.2.2.2.2.2) a0_0 l0_1 l0_2 l0_3 bt344.1 bt344.2.1 bt344.2.2.1 bt344.2.2.2) else (laws_FnExactHealthFact.j0 k l3 t355 true a0_0 l0_1 l0_2 l0_3 bt344.1 bt344.2.1 bt344.2.2.1 bt344.2.2.2)))))))))))))) = some r := h
  clear h
  by_cases c8 : (l3.length : Int) > 1048576
  · rw [if_pos c8] at H
    have c8b0 : decide (1048576 < (l3.length : Int)) = true := decide_eq_true c8
    have c8b1 : decide (1048576 < l3.length) = true := decide_eq_true (by omega)
    clear c8
    obtain rfl := Option.some.inj H
    go_enter Try.func14, Try.ntmps14
    go_wp2_with (first | ((with_reducible refine gate_dst (N := 7) rfl ?_); refine box_event ?hg (N := 7) ?hd (cs := #[.int .i64 a0_0, .slice A0_1 l0_1.length c0_1, .slice A0_2 l0_2.length c0_2, .slice A0_3 l0_3.length c0_3]) (t := 30) ?hr ?_; (case hd => rfl); (case hg => rfl); (case hr => first | (go_simp; done) | (go_simp; rfl)); intro gb315 hg w9 hbox hb; have n0_ := Aside0.mk (below_step z14_16 hb); have n1_ := Aside0.mk (hbox); have n2_ := Aside0.mk ((by rw [hg]; exact (below_size z14_16) : w.heap.size ≤ gb315)); have n3_ := Aside0.mk ((by rw [hg]; exact (below_size z14_16) : w.heap.size ≤ gb315)); clear HB; have HB := n0_; have BK315 := n1_; have GW315 := n2_; have GE315 := n3_; clear n0_ n1_ n2_ n3_; clear hb hbox hg) | ((with_reducible refine gate_dst (N := 9) rfl ?_); refine box_event ?hg (N := 9) ?hd (cs := #[.int .i64 a2_0, .int .i64 a2_1, .int .i64 a2_2, .int .i64 a2_3, .int .i64 a2_4]) (t := 50) ?hr ?_; (case hd => rfl); (case hg => rfl); (case hr => first | (go_simp; done) | (go_simp; rfl)); intro gb316 hg w10 hbox hb; have n0_ := Aside0.mk (blk_below (g := gb315) (o := .cells #[.int .i64 a0_0, .slice A0_1 l0_1.length c0_1, .slice A0_2 l0_2.length c0_2, .slice A0_3 l0_3.length c0_3] 30 (0, 0)) (pB14_ BK315.out) hb); have n1_ := Aside0.mk (below_step z14_15 hb); have n2_ := Aside0.mk (hbox); have n3_ := Aside0.mk ((by rw [hg]; exact (below_size z14_15) : w.heap.size ≤ gb316)); have n4_ := Aside0.mk ((by rw [hg]; exact (below_size z14_15) : w.heap.size ≤ gb316)); have n5_ := Aside0.mk ((z14_6 : gb315 ≠ gb316)); have n6_ := Aside0.mk ((z14_7 : gb316 ≠ gb315)); clear BK315; clear HB; have BK315 := n0_; have HB := n1_; have BK316 := n2_; have GW316 := n3_; have GE316 := n4_; have NB315_316 := n5_; have NB316_315 := n6_; clear n0_ n1_ n2_ n3_ n4_ n5_ n6_; clear hb hbox hg))
    go_ret
    exact ⟨by first | rfl | (simp [errW_none, errW_some] <;> rfl) | (simp [*, errW_none, errW_some] <;> rfl), by repeat (first | (with_reducible first | exact HB.out | apply below_alloc | apply pw_below_drewN | apply below_drew1 | refine below_set ?_ GE315.out | refine below_set ?_ GE316.out) | exact HB.out)⟩
  · rw [if_neg c8] at H
    have c8b0 : decide (1048576 < (l3.length : Int)) = false := decide_eq_false c8
    have c8b1 : decide (1048576 < l3.length) = false := decide_eq_false (by omega)
    clear c8
    replace H := Option.bind_eq_some_iff.mp H
    obtain ⟨t317, A110, H⟩ := H
    replace H : (if t317 < 0 then (some true) else ((laws_toAllowed.f k a0_0 l0_1 l0_2 l0_3).bind fun bt318 => ((laws_toQuote.f a2_0 a2_1 a2_2 a2_3 a2_4).bind fun bt328 => ((laws_toIntS.f k l3).bind fun t333 => ((spec_HealthFact.f k bt318.1 bt318.2.1 bt318.2.2.1 bt318.2.2.2 a1 bt328.1 bt328.2.1 bt328.2.2.1 bt328.2.2.2.1 bt328.2.2.2.2 t333 a4 a5 a6).bind fun bt336 => ((laws_toAllowed.f k a0_0 l0_1 l0_2 l0_3).bind fun bt344 => ((laws_toIntS.f k l3).bind fun t355 => ((laws_toQuote.f a2_0 a2_1 a2_2 a2_3 a2_4).bind fun bt358 => ((impl_HealthFact.f k bt344.1 bt344.2.1 bt344.2.2.1 bt344.2.2.2 a1 bt358.1 bt358.2.1 bt358.2.2.1 bt358.2.2.2.1 bt358.2.2.2.2 t355 a4 a5 a6).bind fun bt363 => ((laws_eqFact.f bt363.1 bt363.2.1 bt363.2.2.1 bt363.2.2.2.1 bt363.2.2.2.2.1 bt363.2.2.2.2.2.1 bt336.1 bt336.2.1 bt336.2.2.1 bt336.2.2.2.1 bt336.2.2.2.2.1 bt336.2.2.2.2.2.1).bind fun t371 => (if t371 = true then (laws_FnExactHealthFact.j0 k l3 t355 (bt363.2.2.2.2.2.2 != bt336.2.2.2.2.2.2) a0_0 l0_1 l0_2 l0_3 bt344.1 bt344.2.1 bt344.2.2.1 bt344.2.2.2) else (laws_FnExactHealthFact.j0 k l3 t355 true a0_0 l0_1 l0_2 l0_3 bt344.1 bt344.2.1 bt344.2.2.1 bt344.2.2.2)))))))))))) = some r := H
    have A11 := Aside0.mk A110
    clear A110
    by_cases c12 : t317 < 0
    · rw [if_pos c12] at H
      have c12b0 : decide (t317 < 0) = true := decide_eq_true c12
      clear c12
      obtain rfl := Option.some.inj H
      go_enter Try.func14, Try.ntmps14
      go_wp2_with (first | ((with_reducible refine gate_dst (N := 7) rfl ?_); refine box_event ?hg (N := 7) ?hd (cs := #[.int .i64 a0_0, .slice A0_1 l0_1.length c0_1, .slice A0_2 l0_2.length c0_2, .slice A0_3 l0_3.length c0_3]) (t := 30) ?hr ?_; (case hd => rfl); (case hg => rfl); (case hr => first | (go_simp; done) | (go_simp; rfl)); intro gb315 hg w13 hbox hb; have n0_ := Aside0.mk (below_step z14_16 hb); have n1_ := Aside0.mk (hbox); have n2_ := Aside0.mk ((by rw [hg]; exact (below_size z14_16) : w.heap.size ≤ gb315)); have n3_ := Aside0.mk ((by rw [hg]; exact (below_size z14_16) : w.heap.size ≤ gb315)); clear HB; have HB := n0_; have BK315 := n1_; have GW315 := n2_; have GE315 := n3_; clear n0_ n1_ n2_ n3_; clear hb hbox hg) | ((with_reducible refine gate_dst (N := 9) rfl ?_); refine box_event ?hg (N := 9) ?hd (cs := #[.int .i64 a2_0, .int .i64 a2_1, .int .i64 a2_2, .int .i64 a2_3, .int .i64 a2_4]) (t := 50) ?hr ?_; (case hd => rfl); (case hg => rfl); (case hr => first | (go_simp; done) | (go_simp; rfl)); intro gb316 hg w14 hbox hb; have n0_ := Aside0.mk (blk_below (g := gb315) (o := .cells #[.int .i64 a0_0, .slice A0_1 l0_1.length c0_1, .slice A0_2 l0_2.length c0_2, .slice A0_3 l0_3.length c0_3] 30 (0, 0)) (pB14_ BK315.out) hb); have n1_ := Aside0.mk (below_step z14_15 hb); have n2_ := Aside0.mk (hbox); have n3_ := Aside0.mk ((by rw [hg]; exact (below_size z14_15) : w.heap.size ≤ gb316)); have n4_ := Aside0.mk ((by rw [hg]; exact (below_size z14_15) : w.heap.size ≤ gb316)); have n5_ := Aside0.mk ((z14_6 : gb315 ≠ gb316)); have n6_ := Aside0.mk ((z14_7 : gb316 ≠ gb315)); clear BK315; clear HB; have BK315 := n0_; have HB := n1_; have BK316 := n2_; have GW316 := n3_; have GE316 := n4_; have NB315_316 := n5_; have NB316_315 := n6_; clear n0_ n1_ n2_ n3_ n4_ n5_ n6_; clear hb hbox hg; have hnb15 := NB315_316.out; have hnc15 := NB316_315.out; have hcz16_0 : w14.cell? ⟨gb315, 0, none⟩ = some (.int .i64 a0_0) := (blk_cell BK315.out 0).trans rfl; have hcz16_1 : w14.cell? ⟨gb315, 1, none⟩ = some (.slice A0_1 l0_1.length c0_1) := (blk_cell BK315.out 1).trans rfl; have hcz16_2 : w14.cell? ⟨gb315, 2, none⟩ = some (.slice A0_2 l0_2.length c0_2) := (blk_cell BK315.out 2).trans rfl; have hcz16_3 : w14.cell? ⟨gb315, 3, none⟩ = some (.slice A0_3 l0_3.length c0_3) := (blk_cell BK315.out 3).trans rfl; have hfz16_0 := blk_frozen BK315.out 0; have hfz16_1 := blk_frozen BK315.out 1; have hfz16_2 := blk_frozen BK315.out 2; have hfz16_3 := blk_frozen BK315.out 3) | ((with_reducible refine gate_callee (f := 20) rfl ?_); refine goesL_ (some 27) rfl rfl Try.func20 z14_38 rfl #[.agg #[.int .i64 a0_0, .slice A0_1 l0_1.length c0_1, .slice A0_2 l0_2.length c0_2, .slice A0_3 l0_3.length c0_3], .int .i64 1048576] rfl z14_4 ?_; (with_reducible refine (laws_szAllowed.calls a0_0 _ _ l0_1 _ _ l0_2 _ _ l0_3 1048576 t317 _ ?side1 ?side2 ?side3 ?side4 ?side5 ?side6 A11.out).mono ?_); (case side1 => repeat (first | exact (Kd.C_below HR0_1.out HB.out) | (with_reducible refine Kd.C_alloc ?_ _) | (with_reducible refine Kd.C_drewN ?_ _) | (with_reducible refine Kd.C_drew ?_))); (case side2 => exact HC0_1.out); (case side3 => repeat (first | exact (Kd.C_below HR0_2.out HB.out) | (with_reducible refine Kd.C_alloc ?_ _) | (with_reducible refine Kd.C_drewN ?_ _) | (with_reducible refine Kd.C_drew ?_))); (case side4 => exact HC0_2.out); (case side5 => repeat (first | exact (Kd.C_below HR0_3.out HB.out) | (with_reducible refine Kd.C_alloc ?_ _) | (with_reducible refine Kd.C_drewN ?_ _) | (with_reducible refine Kd.C_drew ?_))); (case side6 => exact HC0_3.out); rintro e w17 ⟨rfl, hb⟩; refine ⟨_, rfl, ?_⟩; have n0_ := Aside0.mk (blk_below (g := gb315) (o := .cells #[.int .i64 a0_0, .slice A0_1 l0_1.length c0_1, .slice A0_2 l0_2.length c0_2, .slice A0_3 l0_3.length c0_3] 30 (0, 0)) (pB14_ BK315.out) hb); have n1_ := Aside0.mk (blk_below (g := gb316) (o := .cells #[.int .i64 a2_0, .int .i64 a2_1, .int .i64 a2_2, .int .i64 a2_3, .int .i64 a2_4] 50 (0, 0)) (pB14_ BK316.out) hb); have n2_ := Aside0.mk (below_step z14_1 hb); clear BK315; clear BK316; clear HB; have BK315 := n0_; have BK316 := n1_; have HB := n2_; clear n0_ n1_ n2_; (try clear hb); (try clear hb2); (try clear hk); (try clear hi)))
      go_ret
      exact ⟨by first | rfl | (simp [errW_none, errW_some] <;> rfl) | (simp [*, errW_none, errW_some] <;> rfl), by repeat (first | (with_reducible first | exact HB.out | apply below_alloc | apply pw_below_drewN | apply below_drew1 | refine below_set ?_ GE315.out | refine below_set ?_ GE316.out) | exact HB.out)⟩
    · rw [if_neg c12] at H
      have c12b0 : decide (t317 < 0) = false := decide_eq_false c12
      clear c12
      replace H := Option.bind_eq_some_iff.mp H
      obtain ⟨⟨t318, t319, t322, t325⟩, A180, H⟩ := H
      replace H : ((laws_toQuote.f a2_0 a2_1 a2_2 a2_3 a2_4).bind fun bt328 => ((laws_toIntS.f k l3).bind fun t333 => ((spec_HealthFact.f k t318 t319 t322 t325 a1 bt328.1 bt328.2.1 bt328.2.2.1 bt328.2.2.2.1 bt328.2.2.2.2 t333 a4 a5 a6).bind fun bt336 => ((laws_toAllowed.f k a0_0 l0_1 l0_2 l0_3).bind fun bt344 => ((laws_toIntS.f k l3).bind fun t355 => ((laws_toQuote.f a2_0 a2_1 a2_2 a2_3 a2_4).bind fun bt358 => ((impl_HealthFact.f k bt344.1 bt344.2.1 bt344.2.2.1 bt344.2.2.2 a1 bt358.1 bt358.2.1 bt358.2.2.1 bt358.2.2.2.1 bt358.2.2.2.2 t355 a4 a5 a6).bind fun bt363 => ((laws_eqFact.f bt363.1 bt363.2.1 bt363.2.2.1 bt363.2.2.2.1 bt363.2.2.2.2.1 bt363.2.2.2.2.2.1 bt336.1 bt336.2.1 bt336.2.2.1 bt336.2.2.2.1 bt336.2.2.2.2.1 bt336.2.2.2.2.2.1).bind fun t371 => (if t371 = true then (laws_FnExactHealthFact.j0 k l3 t355 (bt363.2.2.2.2.2.2 != bt336.2.2.2.2.2.2) a0_0 l0_1 l0_2 l0_3 bt344.1 bt344.2.1 bt344.2.2.1 bt344.2.2.2) else (laws_FnExactHealthFact.j0 k l3 t355 true a0_0 l0_1 l0_2 l0_3 bt344.1 bt344.2.1 bt344.2.2.1 bt344.2.2.2)))))))))) = some r := H
      have A18 := Aside0.mk A180
      clear A180
      replace H := Option.bind_eq_some_iff.mp H
      obtain ⟨⟨t328, t329, t330, t331, t332⟩, A190, H⟩ := H
      replace H : ((laws_toIntS.f k l3).bind fun t333 => ((spec_HealthFact.f k t318 t319 t322 t325 a1 t328 t329 t330 t331 t332 t333 a4 a5 a6).bind fun bt336 => ((laws_toAllowed.f k a0_0 l0_1 l0_2 l0_3).bind fun bt344 => ((laws_toIntS.f k l3).bind fun t355 => ((laws_toQuote.f a2_0 a2_1 a2_2 a2_3 a2_4).bind fun bt358 => ((impl_HealthFact.f k bt344.1 bt344.2.1 bt344.2.2.1 bt344.2.2.2 a1 bt358.1 bt358.2.1 bt358.2.2.1 bt358.2.2.2.1 bt358.2.2.2.2 t355 a4 a5 a6).bind fun bt363 => ((laws_eqFact.f bt363.1 bt363.2.1 bt363.2.2.1 bt363.2.2.2.1 bt363.2.2.2.2.1 bt363.2.2.2.2.2.1 bt336.1 bt336.2.1 bt336.2.2.1 bt336.2.2.2.1 bt336.2.2.2.2.1 bt336.2.2.2.2.2.1).bind fun t371 => (if t371 = true then (laws_FnExactHealthFact.j0 k l3 t355 (bt363.2.2.2.2.2.2 != bt336.2.2.2.2.2.2) a0_0 l0_1 l0_2 l0_3 bt344.1 bt344.2.1 bt344.2.2.1 bt344.2.2.2) else (laws_FnExactHealthFact.j0 k l3 t355 true a0_0 l0_1 l0_2 l0_3 bt344.1 bt344.2.1 bt344.2.2.1 bt344.2.2.2))))))))) = some r := H
      have A19 := Aside0.mk A190
      clear A190
      replace H := Option.bind_eq_some_iff.mp H
      obtain ⟨t333, A200, H⟩ := H
      replace H : ((spec_HealthFact.f k t318 t319 t322 t325 a1 t328 t329 t330 t331 t332 t333 a4 a5 a6).bind fun bt336 => ((laws_toAllowed.f k a0_0 l0_1 l0_2 l0_3).bind fun bt344 => ((laws_toIntS.f k l3).bind fun t355 => ((laws_toQuote.f a2_0 a2_1 a2_2 a2_3 a2_4).bind fun bt358 => ((impl_HealthFact.f k bt344.1 bt344.2.1 bt344.2.2.1 bt344.2.2.2 a1 bt358.1 bt358.2.1 bt358.2.2.1 bt358.2.2.2.1 bt358.2.2.2.2 t355 a4 a5 a6).bind fun bt363 => ((laws_eqFact.f bt363.1 bt363.2.1 bt363.2.2.1 bt363.2.2.2.1 bt363.2.2.2.2.1 bt363.2.2.2.2.2.1 bt336.1 bt336.2.1 bt336.2.2.1 bt336.2.2.2.1 bt336.2.2.2.2.1 bt336.2.2.2.2.2.1).bind fun t371 => (if t371 = true then (laws_FnExactHealthFact.j0 k l3 t355 (bt363.2.2.2.2.2.2 != bt336.2.2.2.2.2.2) a0_0 l0_1 l0_2 l0_3 bt344.1 bt344.2.1 bt344.2.2.1 bt344.2.2.2) else (laws_FnExactHealthFact.j0 k l3 t355 true a0_0 l0_1 l0_2 l0_3 bt344.1 bt344.2.1 bt344.2.2.1 bt344.2.2.2)))))))) = some r := H
      have A20 := Aside0.mk A200
      clear A200
      replace H := Option.bind_eq_some_iff.mp H
      obtain ⟨⟨t336, t337, t338, t339, t340, t341, t342⟩, A210, H⟩ := H
      replace H : ((laws_toAllowed.f k a0_0 l0_1 l0_2 l0_3).bind fun bt344 => ((laws_toIntS.f k l3).bind fun t355 => ((laws_toQuote.f a2_0 a2_1 a2_2 a2_3 a2_4).bind fun bt358 => ((impl_HealthFact.f k bt344.1 bt344.2.1 bt344.2.2.1 bt344.2.2.2 a1 bt358.1 bt358.2.1 bt358.2.2.1 bt358.2.2.2.1 bt358.2.2.2.2 t355 a4 a5 a6).bind fun bt363 => ((laws_eqFact.f bt363.1 bt363.2.1 bt363.2.2.1 bt363.2.2.2.1 bt363.2.2.2.2.1 bt363.2.2.2.2.2.1 t336 t337 t338 t339 t340 t341).bind fun t371 => (if t371 = true then (laws_FnExactHealthFact.j0 k l3 t355 (bt363.2.2.2.2.2.2 != t342) a0_0 l0_1 l0_2 l0_3 bt344.1 bt344.2.1 bt344.2.2.1 bt344.2.2.2) else (laws_FnExactHealthFact.j0 k l3 t355 true a0_0 l0_1 l0_2 l0_3 bt344.1 bt344.2.1 bt344.2.2.1 bt344.2.2.2))))))) = some r := H
      have A21 := Aside0.mk A210
      clear A210
      replace H := Option.bind_eq_some_iff.mp H
      obtain ⟨⟨t344, t345, t348, t351⟩, A220, H⟩ := H
      replace H : ((laws_toIntS.f k l3).bind fun t355 => ((laws_toQuote.f a2_0 a2_1 a2_2 a2_3 a2_4).bind fun bt358 => ((impl_HealthFact.f k t344 t345 t348 t351 a1 bt358.1 bt358.2.1 bt358.2.2.1 bt358.2.2.2.1 bt358.2.2.2.2 t355 a4 a5 a6).bind fun bt363 => ((laws_eqFact.f bt363.1 bt363.2.1 bt363.2.2.1 bt363.2.2.2.1 bt363.2.2.2.2.1 bt363.2.2.2.2.2.1 t336 t337 t338 t339 t340 t341).bind fun t371 => (if t371 = true then (laws_FnExactHealthFact.j0 k l3 t355 (bt363.2.2.2.2.2.2 != t342) a0_0 l0_1 l0_2 l0_3 t344 t345 t348 t351) else (laws_FnExactHealthFact.j0 k l3 t355 true a0_0 l0_1 l0_2 l0_3 t344 t345 t348 t351)))))) = some r := H
      have A22 := Aside0.mk A220
      clear A220
      replace H := Option.bind_eq_some_iff.mp H
      obtain ⟨t355, A230, H⟩ := H
      replace H : ((laws_toQuote.f a2_0 a2_1 a2_2 a2_3 a2_4).bind fun bt358 => ((impl_HealthFact.f k t344 t345 t348 t351 a1 bt358.1 bt358.2.1 bt358.2.2.1 bt358.2.2.2.1 bt358.2.2.2.2 t355 a4 a5 a6).bind fun bt363 => ((laws_eqFact.f bt363.1 bt363.2.1 bt363.2.2.1 bt363.2.2.2.1 bt363.2.2.2.2.1 bt363.2.2.2.2.2.1 t336 t337 t338 t339 t340 t341).bind fun t371 => (if t371 = true then (laws_FnExactHealthFact.j0 k l3 t355 (bt363.2.2.2.2.2.2 != t342) a0_0 l0_1 l0_2 l0_3 t344 t345 t348 t351) else (laws_FnExactHealthFact.j0 k l3 t355 true a0_0 l0_1 l0_2 l0_3 t344 t345 t348 t351))))) = some r := H
      have A23 := Aside0.mk A230
      clear A230
      replace H := Option.bind_eq_some_iff.mp H
      obtain ⟨⟨t358, t359, t360, t361, t362⟩, A240, H⟩ := H
      replace H : ((impl_HealthFact.f k t344 t345 t348 t351 a1 t358 t359 t360 t361 t362 t355 a4 a5 a6).bind fun bt363 => ((laws_eqFact.f bt363.1 bt363.2.1 bt363.2.2.1 bt363.2.2.2.1 bt363.2.2.2.2.1 bt363.2.2.2.2.2.1 t336 t337 t338 t339 t340 t341).bind fun t371 => (if t371 = true then (laws_FnExactHealthFact.j0 k l3 t355 (bt363.2.2.2.2.2.2 != t342) a0_0 l0_1 l0_2 l0_3 t344 t345 t348 t351) else (laws_FnExactHealthFact.j0 k l3 t355 true a0_0 l0_1 l0_2 l0_3 t344 t345 t348 t351)))) = some r := H
      have A24 := Aside0.mk A240
      clear A240
      replace H := Option.bind_eq_some_iff.mp H
      obtain ⟨⟨t363, t364, t365, t366, t367, t368, t369⟩, A250, H⟩ := H
      replace H : ((laws_eqFact.f t363 t364 t365 t366 t367 t368 t336 t337 t338 t339 t340 t341).bind fun t371 => (if t371 = true then (laws_FnExactHealthFact.j0 k l3 t355 (t369 != t342) a0_0 l0_1 l0_2 l0_3 t344 t345 t348 t351) else (laws_FnExactHealthFact.j0 k l3 t355 true a0_0 l0_1 l0_2 l0_3 t344 t345 t348 t351))) = some r := H
      have A25 := Aside0.mk A250
      clear A250
      have HC26 := Aside0.mk H
      clear H
      go_enter Try.func14, Try.ntmps14
      try go_wp2_with (first | ((with_reducible refine gate_dst (N := 7) rfl ?_); refine box_event ?hg (N := 7) ?hd (cs := #[.int .i64 a0_0, .slice A0_1 l0_1.length c0_1, .slice A0_2 l0_2.length c0_2, .slice A0_3 l0_3.length c0_3]) (t := 30) ?hr ?_; (case hd => rfl); (case hg => rfl); (case hr => first | (go_simp; done) | (go_simp; rfl)); intro gb315 hg w27 hbox hb; have n0_ := Aside0.mk (below_step z14_16 hb); have n1_ := Aside0.mk (hbox); have n2_ := Aside0.mk ((by rw [hg]; exact (below_size z14_16) : w.heap.size ≤ gb315)); have n3_ := Aside0.mk ((by rw [hg]; exact (below_size z14_16) : w.heap.size ≤ gb315)); clear HB; have HB := n0_; have BK315 := n1_; have GW315 := n2_; have GE315 := n3_; clear n0_ n1_ n2_ n3_; clear hb hbox hg) | ((with_reducible refine gate_dst (N := 9) rfl ?_); refine box_event ?hg (N := 9) ?hd (cs := #[.int .i64 a2_0, .int .i64 a2_1, .int .i64 a2_2, .int .i64 a2_3, .int .i64 a2_4]) (t := 50) ?hr ?_; (case hd => rfl); (case hg => rfl); (case hr => first | (go_simp; done) | (go_simp; rfl)); intro gb316 hg w28 hbox hb; have n0_ := Aside0.mk (blk_below (g := gb315) (o := .cells #[.int .i64 a0_0, .slice A0_1 l0_1.length c0_1, .slice A0_2 l0_2.length c0_2, .slice A0_3 l0_3.length c0_3] 30 (0, 0)) (pB14_ BK315.out) hb); have n1_ := Aside0.mk (below_step z14_15 hb); have n2_ := Aside0.mk (hbox); have n3_ := Aside0.mk ((by rw [hg]; exact (below_size z14_15) : w.heap.size ≤ gb316)); have n4_ := Aside0.mk ((by rw [hg]; exact (below_size z14_15) : w.heap.size ≤ gb316)); have n5_ := Aside0.mk ((z14_6 : gb315 ≠ gb316)); have n6_ := Aside0.mk ((z14_7 : gb316 ≠ gb315)); clear BK315; clear HB; have BK315 := n0_; have HB := n1_; have BK316 := n2_; have GW316 := n3_; have GE316 := n4_; have NB315_316 := n5_; have NB316_315 := n6_; clear n0_ n1_ n2_ n3_ n4_ n5_ n6_; clear hb hbox hg; have hnb29 := NB315_316.out; have hnc29 := NB316_315.out; have hcz30_0 : w28.cell? ⟨gb315, 0, none⟩ = some (.int .i64 a0_0) := (blk_cell BK315.out 0).trans rfl; have hcz30_1 : w28.cell? ⟨gb315, 1, none⟩ = some (.slice A0_1 l0_1.length c0_1) := (blk_cell BK315.out 1).trans rfl; have hcz30_2 : w28.cell? ⟨gb315, 2, none⟩ = some (.slice A0_2 l0_2.length c0_2) := (blk_cell BK315.out 2).trans rfl; have hcz30_3 : w28.cell? ⟨gb315, 3, none⟩ = some (.slice A0_3 l0_3.length c0_3) := (blk_cell BK315.out 3).trans rfl; have hfz30_0 := blk_frozen BK315.out 0; have hfz30_1 := blk_frozen BK315.out 1; have hfz30_2 := blk_frozen BK315.out 2; have hfz30_3 := blk_frozen BK315.out 3) | ((with_reducible refine gate_callee (f := 20) rfl ?_); refine goesL_ (some 27) rfl rfl Try.func20 z14_38 rfl #[.agg #[.int .i64 a0_0, .slice A0_1 l0_1.length c0_1, .slice A0_2 l0_2.length c0_2, .slice A0_3 l0_3.length c0_3], .int .i64 1048576] rfl z14_4 ?_; (with_reducible refine (laws_szAllowed.calls a0_0 _ _ l0_1 _ _ l0_2 _ _ l0_3 1048576 t317 _ ?side1 ?side2 ?side3 ?side4 ?side5 ?side6 A11.out).mono ?_); (case side1 => repeat (first | exact (Kd.C_below HR0_1.out HB.out) | (with_reducible refine Kd.C_alloc ?_ _) | (with_reducible refine Kd.C_drewN ?_ _) | (with_reducible refine Kd.C_drew ?_))); (case side2 => exact HC0_1.out); (case side3 => repeat (first | exact (Kd.C_below HR0_2.out HB.out) | (with_reducible refine Kd.C_alloc ?_ _) | (with_reducible refine Kd.C_drewN ?_ _) | (with_reducible refine Kd.C_drew ?_))); (case side4 => exact HC0_2.out); (case side5 => repeat (first | exact (Kd.C_below HR0_3.out HB.out) | (with_reducible refine Kd.C_alloc ?_ _) | (with_reducible refine Kd.C_drewN ?_ _) | (with_reducible refine Kd.C_drew ?_))); (case side6 => exact HC0_3.out); rintro e w31 ⟨rfl, hb⟩; refine ⟨_, rfl, ?_⟩; have n0_ := Aside0.mk (blk_below (g := gb315) (o := .cells #[.int .i64 a0_0, .slice A0_1 l0_1.length c0_1, .slice A0_2 l0_2.length c0_2, .slice A0_3 l0_3.length c0_3] 30 (0, 0)) (pB14_ BK315.out) hb); have n1_ := Aside0.mk (blk_below (g := gb316) (o := .cells #[.int .i64 a2_0, .int .i64 a2_1, .int .i64 a2_2, .int .i64 a2_3, .int .i64 a2_4] 50 (0, 0)) (pB14_ BK316.out) hb); have n2_ := Aside0.mk (below_step z14_1 hb); clear BK315; clear BK316; clear HB; have BK315 := n0_; have BK316 := n1_; have HB := n2_; clear n0_ n1_ n2_; (try clear hb); (try clear hb2); (try clear hk); (try clear hi)))
      have n0_ := Aside0.mk (blk_drew BK315.out)
      have n1_ := Aside0.mk (blk_drew BK316.out)
      have n2_ := Aside0.mk (below_drew1 HB.out)
      clear BK315
      clear BK316
      clear HB
      have BK315 := n0_
      have BK316 := n1_
      have HB := n2_
      clear n0_ n1_ n2_
      refine start_ (n := 17) (S := fun w' => w'.cell? ⟨gb315, 0, none⟩ = some (.int .i64 a0_0) ∧ w'.cell? ⟨gb315, 1, none⟩ = some (.slice A0_1 l0_1.length c0_1) ∧ w'.cell? ⟨gb315, 2, none⟩ = some (.slice A0_2 l0_2.length c0_2) ∧ w'.cell? ⟨gb315, 3, none⟩ = some (.slice A0_3 l0_3.length c0_3) ∧ w'.cell? ⟨gb316, 0, none⟩ = some (.int .i64 a2_0) ∧ w'.cell? ⟨gb316, 1, none⟩ = some (.int .i64 a2_1) ∧ w'.cell? ⟨gb316, 2, none⟩ = some (.int .i64 a2_2) ∧ w'.cell? ⟨gb316, 3, none⟩ = some (.int .i64 a2_3) ∧ w'.cell? ⟨gb316, 4, none⟩ = some (.int .i64 a2_4)) (ds := []) #[false, false, false, false, false, false, false, false, false, false, false, false, false, false, false, false, false] z14_38 rfl rfl ⟨(blk_cell BK315.out 0).trans rfl, (blk_cell BK315.out 1).trans rfl, (blk_cell BK315.out 2).trans rfl, (blk_cell BK315.out 3).trans rfl, (blk_cell BK316.out 0).trans rfl, (blk_cell BK316.out 1).trans rfl, (blk_cell BK316.out 2).trans rfl, (blk_cell BK316.out 3).trans rfl, (blk_cell BK316.out 4).trans rfl⟩ (fun hHeld => ?_); refine with_tabW laws_FnExactHealthFact.tab7 laws_FnExactHealthFact.bits7 (fun HT_ HW_ => ?_)
      generalize w31.drew = w32 at BK315 BK316 HB hHeld ⊢
      refine pure_ (i := 2) (N := some 33) (v := ?_) (a' := ?_) #[false, false, true, false, false, false, false, false, false, false, false, false, false, false, false, false, false] rfl rfl (any_of HT_.out z14_38) (fun _ _ _ h => h) (Or.inl ⟨by rfl, ?_⟩) ?_ ?_
      rotate_left
      · intro w'
        go_simp
        with_reducible rfl
      rotate_left
      · simp only [Act.put, List.setIfInBounds_toArray, List.set_cons_zero, List.set_cons_succ, i64_w, i32_w]
        rfl
      refine pure_ (i := 5) (N := some 36) (v := ?_) (a' := ?_) #[false, false, true, false, false, true, false, false, false, false, false, false, false, false, false, false, false] rfl rfl (any_of HT_.out z14_38) (fun _ _ _ h => h) (Or.inl ⟨by rfl, ?_⟩) ?_ ?_
      rotate_left
      · intro w'
        go_simp
        with_reducible rfl
      rotate_left
      · simp only [Act.put, List.setIfInBounds_toArray, List.set_cons_zero, List.set_cons_succ, i64_w, i32_w]
        rfl
      refine pure_ (i := 7) (N := some 38) (v := ?_) (a' := ?_) #[false, false, true, false, false, true, false, true, false, false, false, false, false, false, false, false, false] rfl rfl (any_of HT_.out z14_38) (fun _ _ _ h => h) (Or.inl ⟨by rfl, ?_⟩) ?_ ?_
      rotate_left
      · intro w'
        go_simp
        with_reducible rfl
      rotate_left
      · simp only [Act.put, List.setIfInBounds_toArray, List.set_cons_zero, List.set_cons_succ, i64_w, i32_w]
        rfl
      refine pure_ (i := 8) (N := some 39) (v := ?_) (a' := ?_) #[false, false, true, false, false, true, false, true, true, false, false, false, false, false, false, false, false] rfl rfl (any_of HT_.out z14_38) (fun _ _ _ h => h) (Or.inl ⟨by rfl, ?_⟩) ?_ ?_
      rotate_left
      · intro w'
        go_simp
        with_reducible rfl
      rotate_left
      · simp only [Act.put, List.setIfInBounds_toArray, List.set_cons_zero, List.set_cons_succ, i64_w, i32_w]
        rfl
      refine pure_ (i := 9) (N := some 40) (v := ?_) (a' := ?_) #[false, false, true, false, false, true, false, true, true, true, false, false, false, false, false, false, false] rfl rfl (any_of HT_.out z14_38) (fun _ _ _ h => h) (Or.inl ⟨by rfl, ?_⟩) ?_ ?_
      rotate_left
      · intro w'
        go_simp
        with_reducible rfl
      rotate_left
      · simp only [Act.put, List.setIfInBounds_toArray, List.set_cons_zero, List.set_cons_succ, i64_w, i32_w]
        rfl
      refine take_ (i := 0) (N := some 31) (v := ?_) (a' := ?_) #[true, false, true, false, false, true, false, true, true, true, false, false, false, false, false, false, false] rfl rfl (take_ofW HT_.out HW_.out z14_38) (fun _ _ _ h => h) (Or.inl ⟨by rfl, ?_⟩) hHeld ?_ ?_
      rotate_left
      · rintro w' ⟨s0, s1, s2, s3, s4, s5, s6, s7, s8⟩
        go_simp
        with_reducible rfl
      rotate_left
      · simp only [Act.put, List.setIfInBounds_toArray, List.set_cons_zero, List.set_cons_succ, i64_w, i32_w]
        rfl
      refine take_ (i := 3) (N := some 34) (v := ?_) (a' := ?_) #[true, false, true, true, false, true, false, true, true, true, false, false, false, false, false, false, false] rfl rfl (take_ofW HT_.out HW_.out z14_38) (fun _ _ _ h => h) (Or.inl ⟨by rfl, ?_⟩) hHeld ?_ ?_
      rotate_left
      · rintro w' ⟨s0, s1, s2, s3, s4, s5, s6, s7, s8⟩
        go_simp
        with_reducible rfl
      rotate_left
      · simp only [Act.put, List.setIfInBounds_toArray, List.set_cons_zero, List.set_cons_succ, i64_w, i32_w]
        rfl
      refine join_ (σ := Value × Value × Value × Value × Nat) 2 #[true, true, true, true, true, true, true, true, true, true, true, true, true, true, true, false, false] (fun s_ => [(32, .agg #[.int .i64 t318, s_.1, s_.2.1, s_.2.2.1]), (35, .agg #[.int .i64 t328, .int .i64 t329, .int .i64 t330, .int .i64 t331, .int .i64 t332]), (37, s_.2.2.2.1), (41, .tuple #[.agg #[.int .i64 t336, .int .i64 t337, .int .i64 t338, .int .i64 t339, .int .i64 t340, .int .i64 t341], .bool t342]), (16, .pointer (some ⟨s_.2.2.2.2, 0, none⟩)), (30, .tuple #[.agg #[.int .i64 t336, .int .i64 t337, .int .i64 t338, .int .i64 t339, .int .i64 t340, .int .i64 t341], .bool t342]), (42, .agg #[.int .i64 t336, .int .i64 t337, .int .i64 t338, .int .i64 t339, .int .i64 t340, .int .i64 t341]), (43, .bool t342)]) (fun s_ w' => (w'.cell? ⟨gb315, 0, none⟩ = some (.int .i64 a0_0) ∧ w'.cell? ⟨gb315, 1, none⟩ = some (.slice A0_1 l0_1.length c0_1) ∧ w'.cell? ⟨gb315, 2, none⟩ = some (.slice A0_2 l0_2.length c0_2) ∧ w'.cell? ⟨gb315, 3, none⟩ = some (.slice A0_3 l0_3.length c0_3) ∧ w'.cell? ⟨gb316, 0, none⟩ = some (.int .i64 a2_0) ∧ w'.cell? ⟨gb316, 1, none⟩ = some (.int .i64 a2_1) ∧ w'.cell? ⟨gb316, 2, none⟩ = some (.int .i64 a2_2) ∧ w'.cell? ⟨gb316, 3, none⟩ = some (.int .i64 a2_3) ∧ w'.cell? ⟨gb316, 4, none⟩ = some (.int .i64 a2_4)) ∧ (Kd.R (Kd.int .i64) 3 w' w.heap.size (fun k_ => some k_ ≠ (s_.2.1 : Value).ownBlock ∧ some k_ ≠ (s_.2.2.1 : Value).ownBlock ∧ some k_ ≠ (s_.2.2.2.1 : Value).ownBlock) s_.1 t319) ∧ (Kd.R (Kd.int .i64) 3 w' w.heap.size (fun k_ => some k_ ≠ (s_.1 : Value).ownBlock ∧ some k_ ≠ (s_.2.2.1 : Value).ownBlock ∧ some k_ ≠ (s_.2.2.2.1 : Value).ownBlock) s_.2.1 t322) ∧ (Kd.R (Kd.int .i64) 3 w' w.heap.size (fun k_ => some k_ ≠ (s_.1 : Value).ownBlock ∧ some k_ ≠ (s_.2.1 : Value).ownBlock ∧ some k_ ≠ (s_.2.2.2.1 : Value).ownBlock) s_.2.2.1 t325) ∧ (Kd.R (Kd.int .i64) 3 w' w.heap.size (fun k_ => some k_ ≠ (s_.1 : Value).ownBlock ∧ some k_ ≠ (s_.2.1 : Value).ownBlock ∧ some k_ ≠ (s_.2.2.1 : Value).ownBlock) s_.2.2.2.1 t333) ∧ (w'.heap[gb315]? = some (.cells #[.int .i64 a0_0, .slice A0_1 l0_1.length c0_1, .slice A0_2 l0_2.length c0_2, .slice A0_3 l0_3.length c0_3] 30 (0, 0))) ∧ (w'.heap[gb316]? = some (.cells #[.int .i64 a2_0, .int .i64 a2_1, .int .i64 a2_2, .int .i64 a2_3, .int .i64 a2_4] 50 (0, 0))) ∧ (w'.heap[s_.2.2.2.2]? = some (.cells #[.int .i64 0, .int .i64 0, .int .i64 0, .int .i64 0, .int .i64 0, .int .i64 0] 83 (0, 0))) ∧ (w.heap.size ≤ s_.2.2.2.2) ∧ (w.heap.size ≤ s_.2.2.2.2) ∧ (gb315 ≠ s_.2.2.2.2) ∧ (s_.2.2.2.2 ≠ gb315) ∧ (gb316 ≠ s_.2.2.2.2) ∧ (s_.2.2.2.2 ≠ gb316) ∧ (Below w.heap.size w w')) ?_ ?_
      rotate_left
      · intro hJ1_4_6_10_14
        refine join_ (σ := Value × Value × Value × Value) 3 #[true, true, true, true, true, true, true, true, true, true, true, true, true, true, false, false, false] (fun s_ => [(32, .agg #[.int .i64 t318, s_.1, s_.2.1, s_.2.2.1]), (35, .agg #[.int .i64 t328, .int .i64 t329, .int .i64 t330, .int .i64 t331, .int .i64 t332]), (37, s_.2.2.2), (41, .tuple #[.agg #[.int .i64 t336, .int .i64 t337, .int .i64 t338, .int .i64 t339, .int .i64 t340, .int .i64 t341], .bool t342]), (30, .tuple #[.agg #[.int .i64 t336, .int .i64 t337, .int .i64 t338, .int .i64 t339, .int .i64 t340, .int .i64 t341], .bool t342]), (42, .agg #[.int .i64 t336, .int .i64 t337, .int .i64 t338, .int .i64 t339, .int .i64 t340, .int .i64 t341]), (43, .bool t342)]) (fun s_ w' => (w'.cell? ⟨gb315, 0, none⟩ = some (.int .i64 a0_0) ∧ w'.cell? ⟨gb315, 1, none⟩ = some (.slice A0_1 l0_1.length c0_1) ∧ w'.cell? ⟨gb315, 2, none⟩ = some (.slice A0_2 l0_2.length c0_2) ∧ w'.cell? ⟨gb315, 3, none⟩ = some (.slice A0_3 l0_3.length c0_3) ∧ w'.cell? ⟨gb316, 0, none⟩ = some (.int .i64 a2_0) ∧ w'.cell? ⟨gb316, 1, none⟩ = some (.int .i64 a2_1) ∧ w'.cell? ⟨gb316, 2, none⟩ = some (.int .i64 a2_2) ∧ w'.cell? ⟨gb316, 3, none⟩ = some (.int .i64 a2_3) ∧ w'.cell? ⟨gb316, 4, none⟩ = some (.int .i64 a2_4)) ∧ (Kd.R (Kd.int .i64) 3 w' w.heap.size (fun k_ => some k_ ≠ (s_.2.1 : Value).ownBlock ∧ some k_ ≠ (s_.2.2.1 : Value).ownBlock ∧ some k_ ≠ (s_.2.2.2 : Value).ownBlock) s_.1 t319) ∧ (Kd.R (Kd.int .i64) 3 w' w.heap.size (fun k_ => some k_ ≠ (s_.1 : Value).ownBlock ∧ some k_ ≠ (s_.2.2.1 : Value).ownBlock ∧ some k_ ≠ (s_.2.2.2 : Value).ownBlock) s_.2.1 t322) ∧ (Kd.R (Kd.int .i64) 3 w' w.heap.size (fun k_ => some k_ ≠ (s_.1 : Value).ownBlock ∧ some k_ ≠ (s_.2.1 : Value).ownBlock ∧ some k_ ≠ (s_.2.2.2 : Value).ownBlock) s_.2.2.1 t325) ∧ (Kd.R (Kd.int .i64) 3 w' w.heap.size (fun k_ => some k_ ≠ (s_.1 : Value).ownBlock ∧ some k_ ≠ (s_.2.1 : Value).ownBlock ∧ some k_ ≠ (s_.2.2.1 : Value).ownBlock) s_.2.2.2 t333) ∧ (w'.heap[gb315]? = some (.cells #[.int .i64 a0_0, .slice A0_1 l0_1.length c0_1, .slice A0_2 l0_2.length c0_2, .slice A0_3 l0_3.length c0_3] 30 (0, 0))) ∧ (w'.heap[gb316]? = some (.cells #[.int .i64 a2_0, .int .i64 a2_1, .int .i64 a2_2, .int .i64 a2_3, .int .i64 a2_4] 50 (0, 0))) ∧ (Below w.heap.size w w')) ?_ ?_
        rotate_left
        · intro hJ1_4_6_10
          refine join_ (σ := Value × Value × Value × Value × Nat) 6 #[true, true, true, true, true, true, true, true, true, true, false, false, false, false, true, false, false] (fun s_ => [(32, .agg #[.int .i64 t318, s_.1, s_.2.1, s_.2.2.1]), (35, .agg #[.int .i64 t328, .int .i64 t329, .int .i64 t330, .int .i64 t331, .int .i64 t332]), (37, s_.2.2.2.1), (16, .pointer (some ⟨s_.2.2.2.2, 0, none⟩))]) (fun s_ w' => (w'.cell? ⟨gb315, 0, none⟩ = some (.int .i64 a0_0) ∧ w'.cell? ⟨gb315, 1, none⟩ = some (.slice A0_1 l0_1.length c0_1) ∧ w'.cell? ⟨gb315, 2, none⟩ = some (.slice A0_2 l0_2.length c0_2) ∧ w'.cell? ⟨gb315, 3, none⟩ = some (.slice A0_3 l0_3.length c0_3) ∧ w'.cell? ⟨gb316, 0, none⟩ = some (.int .i64 a2_0) ∧ w'.cell? ⟨gb316, 1, none⟩ = some (.int .i64 a2_1) ∧ w'.cell? ⟨gb316, 2, none⟩ = some (.int .i64 a2_2) ∧ w'.cell? ⟨gb316, 3, none⟩ = some (.int .i64 a2_3) ∧ w'.cell? ⟨gb316, 4, none⟩ = some (.int .i64 a2_4)) ∧ (Kd.R (Kd.int .i64) 3 w' w.heap.size (fun k_ => some k_ ≠ (s_.2.1 : Value).ownBlock ∧ some k_ ≠ (s_.2.2.1 : Value).ownBlock ∧ some k_ ≠ (s_.2.2.2.1 : Value).ownBlock) s_.1 t319) ∧ (Kd.R (Kd.int .i64) 3 w' w.heap.size (fun k_ => some k_ ≠ (s_.1 : Value).ownBlock ∧ some k_ ≠ (s_.2.2.1 : Value).ownBlock ∧ some k_ ≠ (s_.2.2.2.1 : Value).ownBlock) s_.2.1 t322) ∧ (Kd.R (Kd.int .i64) 3 w' w.heap.size (fun k_ => some k_ ≠ (s_.1 : Value).ownBlock ∧ some k_ ≠ (s_.2.1 : Value).ownBlock ∧ some k_ ≠ (s_.2.2.2.1 : Value).ownBlock) s_.2.2.1 t325) ∧ (Kd.R (Kd.int .i64) 3 w' w.heap.size (fun k_ => some k_ ≠ (s_.1 : Value).ownBlock ∧ some k_ ≠ (s_.2.1 : Value).ownBlock ∧ some k_ ≠ (s_.2.2.1 : Value).ownBlock) s_.2.2.2.1 t333) ∧ (w'.heap[gb315]? = some (.cells #[.int .i64 a0_0, .slice A0_1 l0_1.length c0_1, .slice A0_2 l0_2.length c0_2, .slice A0_3 l0_3.length c0_3] 30 (0, 0))) ∧ (w'.heap[gb316]? = some (.cells #[.int .i64 a2_0, .int .i64 a2_1, .int .i64 a2_2, .int .i64 a2_3, .int .i64 a2_4] 50 (0, 0))) ∧ (w'.heap[s_.2.2.2.2]? = some (.cells #[.int .i64 0, .int .i64 0, .int .i64 0, .int .i64 0, .int .i64 0, .int .i64 0] 83 (0, 0))) ∧ (w.heap.size ≤ s_.2.2.2.2) ∧ (w.heap.size ≤ s_.2.2.2.2) ∧ (gb315 ≠ s_.2.2.2.2) ∧ (s_.2.2.2.2 ≠ gb315) ∧ (gb316 ≠ s_.2.2.2.2) ∧ (s_.2.2.2.2 ≠ gb316) ∧ (Below w.heap.size w w')) ?_ ?_
          rotate_left
          · intro hJ1_4_6_14
            refine join_ (σ := Value × Value × Value × Value) 7 #[true, true, true, true, true, true, true, true, true, true, false, false, false, false, false, false, false] (fun s_ => [(32, .agg #[.int .i64 t318, s_.1, s_.2.1, s_.2.2.1]), (35, .agg #[.int .i64 t328, .int .i64 t329, .int .i64 t330, .int .i64 t331, .int .i64 t332]), (37, s_.2.2.2)]) (fun s_ w' => (w'.cell? ⟨gb315, 0, none⟩ = some (.int .i64 a0_0) ∧ w'.cell? ⟨gb315, 1, none⟩ = some (.slice A0_1 l0_1.length c0_1) ∧ w'.cell? ⟨gb315, 2, none⟩ = some (.slice A0_2 l0_2.length c0_2) ∧ w'.cell? ⟨gb315, 3, none⟩ = some (.slice A0_3 l0_3.length c0_3) ∧ w'.cell? ⟨gb316, 0, none⟩ = some (.int .i64 a2_0) ∧ w'.cell? ⟨gb316, 1, none⟩ = some (.int .i64 a2_1) ∧ w'.cell? ⟨gb316, 2, none⟩ = some (.int .i64 a2_2) ∧ w'.cell? ⟨gb316, 3, none⟩ = some (.int .i64 a2_3) ∧ w'.cell? ⟨gb316, 4, none⟩ = some (.int .i64 a2_4)) ∧ (Kd.R (Kd.int .i64) 3 w' w.heap.size (fun k_ => some k_ ≠ (s_.2.1 : Value).ownBlock ∧ some k_ ≠ (s_.2.2.1 : Value).ownBlock ∧ some k_ ≠ (s_.2.2.2 : Value).ownBlock) s_.1 t319) ∧ (Kd.R (Kd.int .i64) 3 w' w.heap.size (fun k_ => some k_ ≠ (s_.1 : Value).ownBlock ∧ some k_ ≠ (s_.2.2.1 : Value).ownBlock ∧ some k_ ≠ (s_.2.2.2 : Value).ownBlock) s_.2.1 t322) ∧ (Kd.R (Kd.int .i64) 3 w' w.heap.size (fun k_ => some k_ ≠ (s_.1 : Value).ownBlock ∧ some k_ ≠ (s_.2.1 : Value).ownBlock ∧ some k_ ≠ (s_.2.2.2 : Value).ownBlock) s_.2.2.1 t325) ∧ (Kd.R (Kd.int .i64) 3 w' w.heap.size (fun k_ => some k_ ≠ (s_.1 : Value).ownBlock ∧ some k_ ≠ (s_.2.1 : Value).ownBlock ∧ some k_ ≠ (s_.2.2.1 : Value).ownBlock) s_.2.2.2 t333) ∧ (w'.heap[gb315]? = some (.cells #[.int .i64 a0_0, .slice A0_1 l0_1.length c0_1, .slice A0_2 l0_2.length c0_2, .slice A0_3 l0_3.length c0_3] 30 (0, 0))) ∧ (w'.heap[gb316]? = some (.cells #[.int .i64 a2_0, .int .i64 a2_1, .int .i64 a2_2, .int .i64 a2_3, .int .i64 a2_4] 50 (0, 0))) ∧ (Below w.heap.size w w')) ?_ ?_
            rotate_left
            · intro hJ1_4_6
              refine join_ (σ := Value × Value × Value × Nat) 7 #[true, true, true, true, true, true, false, true, true, true, false, false, false, false, true, false, false] (fun s_ => [(32, .agg #[.int .i64 t318, s_.1, s_.2.1, s_.2.2.1]), (35, .agg #[.int .i64 t328, .int .i64 t329, .int .i64 t330, .int .i64 t331, .int .i64 t332]), (16, .pointer (some ⟨s_.2.2.2, 0, none⟩))]) (fun s_ w' => (w'.cell? ⟨gb315, 0, none⟩ = some (.int .i64 a0_0) ∧ w'.cell? ⟨gb315, 1, none⟩ = some (.slice A0_1 l0_1.length c0_1) ∧ w'.cell? ⟨gb315, 2, none⟩ = some (.slice A0_2 l0_2.length c0_2) ∧ w'.cell? ⟨gb315, 3, none⟩ = some (.slice A0_3 l0_3.length c0_3) ∧ w'.cell? ⟨gb316, 0, none⟩ = some (.int .i64 a2_0) ∧ w'.cell? ⟨gb316, 1, none⟩ = some (.int .i64 a2_1) ∧ w'.cell? ⟨gb316, 2, none⟩ = some (.int .i64 a2_2) ∧ w'.cell? ⟨gb316, 3, none⟩ = some (.int .i64 a2_3) ∧ w'.cell? ⟨gb316, 4, none⟩ = some (.int .i64 a2_4)) ∧ (Kd.R (Kd.int .i64) 3 w' w.heap.size (fun k_ => some k_ ≠ (s_.2.1 : Value).ownBlock ∧ some k_ ≠ (s_.2.2.1 : Value).ownBlock) s_.1 t319) ∧ (Kd.R (Kd.int .i64) 3 w' w.heap.size (fun k_ => some k_ ≠ (s_.1 : Value).ownBlock ∧ some k_ ≠ (s_.2.2.1 : Value).ownBlock) s_.2.1 t322) ∧ (Kd.R (Kd.int .i64) 3 w' w.heap.size (fun k_ => some k_ ≠ (s_.1 : Value).ownBlock ∧ some k_ ≠ (s_.2.1 : Value).ownBlock) s_.2.2.1 t325) ∧ (w'.heap[gb315]? = some (.cells #[.int .i64 a0_0, .slice A0_1 l0_1.length c0_1, .slice A0_2 l0_2.length c0_2, .slice A0_3 l0_3.length c0_3] 30 (0, 0))) ∧ (w'.heap[gb316]? = some (.cells #[.int .i64 a2_0, .int .i64 a2_1, .int .i64 a2_2, .int .i64 a2_3, .int .i64 a2_4] 50 (0, 0))) ∧ (w'.heap[s_.2.2.2]? = some (.cells #[.int .i64 0, .int .i64 0, .int .i64 0, .int .i64 0, .int .i64 0, .int .i64 0] 83 (0, 0))) ∧ (w.heap.size ≤ s_.2.2.2) ∧ (w.heap.size ≤ s_.2.2.2) ∧ (gb315 ≠ s_.2.2.2) ∧ (s_.2.2.2 ≠ gb315) ∧ (gb316 ≠ s_.2.2.2) ∧ (s_.2.2.2 ≠ gb316) ∧ (Below w.heap.size w w')) ?_ ?_
              rotate_left
              · intro hJ1_4_14
                refine join_ (σ := Value × Value × Value) 8 #[true, true, true, true, true, true, false, true, true, true, false, false, false, false, false, false, false] (fun s_ => [(32, .agg #[.int .i64 t318, s_.1, s_.2.1, s_.2.2]), (35, .agg #[.int .i64 t328, .int .i64 t329, .int .i64 t330, .int .i64 t331, .int .i64 t332])]) (fun s_ w' => (w'.cell? ⟨gb315, 0, none⟩ = some (.int .i64 a0_0) ∧ w'.cell? ⟨gb315, 1, none⟩ = some (.slice A0_1 l0_1.length c0_1) ∧ w'.cell? ⟨gb315, 2, none⟩ = some (.slice A0_2 l0_2.length c0_2) ∧ w'.cell? ⟨gb315, 3, none⟩ = some (.slice A0_3 l0_3.length c0_3) ∧ w'.cell? ⟨gb316, 0, none⟩ = some (.int .i64 a2_0) ∧ w'.cell? ⟨gb316, 1, none⟩ = some (.int .i64 a2_1) ∧ w'.cell? ⟨gb316, 2, none⟩ = some (.int .i64 a2_2) ∧ w'.cell? ⟨gb316, 3, none⟩ = some (.int .i64 a2_3) ∧ w'.cell? ⟨gb316, 4, none⟩ = some (.int .i64 a2_4)) ∧ (Kd.R (Kd.int .i64) 3 w' w.heap.size (fun k_ => some k_ ≠ (s_.2.1 : Value).ownBlock ∧ some k_ ≠ (s_.2.2 : Value).ownBlock) s_.1 t319) ∧ (Kd.R (Kd.int .i64) 3 w' w.heap.size (fun k_ => some k_ ≠ (s_.1 : Value).ownBlock ∧ some k_ ≠ (s_.2.2 : Value).ownBlock) s_.2.1 t322) ∧ (Kd.R (Kd.int .i64) 3 w' w.heap.size (fun k_ => some k_ ≠ (s_.1 : Value).ownBlock ∧ some k_ ≠ (s_.2.1 : Value).ownBlock) s_.2.2 t325) ∧ (w'.heap[gb315]? = some (.cells #[.int .i64 a0_0, .slice A0_1 l0_1.length c0_1, .slice A0_2 l0_2.length c0_2, .slice A0_3 l0_3.length c0_3] 30 (0, 0))) ∧ (w'.heap[gb316]? = some (.cells #[.int .i64 a2_0, .int .i64 a2_1, .int .i64 a2_2, .int .i64 a2_3, .int .i64 a2_4] 50 (0, 0))) ∧ (Below w.heap.size w w')) ?_ ?_
                rotate_left
                · intro hJ1_4
                  refine join_ (σ := Value × Value × Value × Nat) 8 #[true, true, true, true, false, true, false, true, true, true, false, false, false, false, true, false, false] (fun s_ => [(32, .agg #[.int .i64 t318, s_.1, s_.2.1, s_.2.2.1]), (16, .pointer (some ⟨s_.2.2.2, 0, none⟩))]) (fun s_ w' => (w'.cell? ⟨gb315, 0, none⟩ = some (.int .i64 a0_0) ∧ w'.cell? ⟨gb315, 1, none⟩ = some (.slice A0_1 l0_1.length c0_1) ∧ w'.cell? ⟨gb315, 2, none⟩ = some (.slice A0_2 l0_2.length c0_2) ∧ w'.cell? ⟨gb315, 3, none⟩ = some (.slice A0_3 l0_3.length c0_3) ∧ w'.cell? ⟨gb316, 0, none⟩ = some (.int .i64 a2_0) ∧ w'.cell? ⟨gb316, 1, none⟩ = some (.int .i64 a2_1) ∧ w'.cell? ⟨gb316, 2, none⟩ = some (.int .i64 a2_2) ∧ w'.cell? ⟨gb316, 3, none⟩ = some (.int .i64 a2_3) ∧ w'.cell? ⟨gb316, 4, none⟩ = some (.int .i64 a2_4)) ∧ (Kd.R (Kd.int .i64) 3 w' w.heap.size (fun k_ => some k_ ≠ (s_.2.1 : Value).ownBlock ∧ some k_ ≠ (s_.2.2.1 : Value).ownBlock) s_.1 t319) ∧ (Kd.R (Kd.int .i64) 3 w' w.heap.size (fun k_ => some k_ ≠ (s_.1 : Value).ownBlock ∧ some k_ ≠ (s_.2.2.1 : Value).ownBlock) s_.2.1 t322) ∧ (Kd.R (Kd.int .i64) 3 w' w.heap.size (fun k_ => some k_ ≠ (s_.1 : Value).ownBlock ∧ some k_ ≠ (s_.2.1 : Value).ownBlock) s_.2.2.1 t325) ∧ (w'.heap[gb315]? = some (.cells #[.int .i64 a0_0, .slice A0_1 l0_1.length c0_1, .slice A0_2 l0_2.length c0_2, .slice A0_3 l0_3.length c0_3] 30 (0, 0))) ∧ (w'.heap[gb316]? = some (.cells #[.int .i64 a2_0, .int .i64 a2_1, .int .i64 a2_2, .int .i64 a2_3, .int .i64 a2_4] 50 (0, 0))) ∧ (w'.heap[s_.2.2.2]? = some (.cells #[.int .i64 0, .int .i64 0, .int .i64 0, .int .i64 0, .int .i64 0, .int .i64 0] 83 (0, 0))) ∧ (w.heap.size ≤ s_.2.2.2) ∧ (w.heap.size ≤ s_.2.2.2) ∧ (gb315 ≠ s_.2.2.2) ∧ (s_.2.2.2 ≠ gb315) ∧ (gb316 ≠ s_.2.2.2) ∧ (s_.2.2.2 ≠ gb316) ∧ (Below w.heap.size w w')) ?_ ?_
                  rotate_left
                  · intro hJ1_14
                    refine join_ (σ := Value × Value × Value) 9 #[true, true, true, true, false, true, false, true, true, true, false, false, false, false, false, false, false] (fun s_ => [(32, .agg #[.int .i64 t318, s_.1, s_.2.1, s_.2.2])]) (fun s_ w' => (w'.cell? ⟨gb315, 0, none⟩ = some (.int .i64 a0_0) ∧ w'.cell? ⟨gb315, 1, none⟩ = some (.slice A0_1 l0_1.length c0_1) ∧ w'.cell? ⟨gb315, 2, none⟩ = some (.slice A0_2 l0_2.length c0_2) ∧ w'.cell? ⟨gb315, 3, none⟩ = some (.slice A0_3 l0_3.length c0_3) ∧ w'.cell? ⟨gb316, 0, none⟩ = some (.int .i64 a2_0) ∧ w'.cell? ⟨gb316, 1, none⟩ = some (.int .i64 a2_1) ∧ w'.cell? ⟨gb316, 2, none⟩ = some (.int .i64 a2_2) ∧ w'.cell? ⟨gb316, 3, none⟩ = some (.int .i64 a2_3) ∧ w'.cell? ⟨gb316, 4, none⟩ = some (.int .i64 a2_4)) ∧ (Kd.R (Kd.int .i64) 3 w' w.heap.size (fun k_ => some k_ ≠ (s_.2.1 : Value).ownBlock ∧ some k_ ≠ (s_.2.2 : Value).ownBlock) s_.1 t319) ∧ (Kd.R (Kd.int .i64) 3 w' w.heap.size (fun k_ => some k_ ≠ (s_.1 : Value).ownBlock ∧ some k_ ≠ (s_.2.2 : Value).ownBlock) s_.2.1 t322) ∧ (Kd.R (Kd.int .i64) 3 w' w.heap.size (fun k_ => some k_ ≠ (s_.1 : Value).ownBlock ∧ some k_ ≠ (s_.2.1 : Value).ownBlock) s_.2.2 t325) ∧ (w'.heap[gb315]? = some (.cells #[.int .i64 a0_0, .slice A0_1 l0_1.length c0_1, .slice A0_2 l0_2.length c0_2, .slice A0_3 l0_3.length c0_3] 30 (0, 0))) ∧ (w'.heap[gb316]? = some (.cells #[.int .i64 a2_0, .int .i64 a2_1, .int .i64 a2_2, .int .i64 a2_3, .int .i64 a2_4] 50 (0, 0))) ∧ (Below w.heap.size w w')) ?_ ?_
                    rotate_left
                    · intro hJ1
                      refine join_ (σ := Nat) 9 #[true, false, true, true, false, true, false, true, true, true, false, false, false, false, true, false, false] (fun s_ => [(16, .pointer (some ⟨s_, 0, none⟩))]) (fun s_ w' => (w'.cell? ⟨gb315, 0, none⟩ = some (.int .i64 a0_0) ∧ w'.cell? ⟨gb315, 1, none⟩ = some (.slice A0_1 l0_1.length c0_1) ∧ w'.cell? ⟨gb315, 2, none⟩ = some (.slice A0_2 l0_2.length c0_2) ∧ w'.cell? ⟨gb315, 3, none⟩ = some (.slice A0_3 l0_3.length c0_3) ∧ w'.cell? ⟨gb316, 0, none⟩ = some (.int .i64 a2_0) ∧ w'.cell? ⟨gb316, 1, none⟩ = some (.int .i64 a2_1) ∧ w'.cell? ⟨gb316, 2, none⟩ = some (.int .i64 a2_2) ∧ w'.cell? ⟨gb316, 3, none⟩ = some (.int .i64 a2_3) ∧ w'.cell? ⟨gb316, 4, none⟩ = some (.int .i64 a2_4)) ∧ (w'.heap[gb315]? = some (.cells #[.int .i64 a0_0, .slice A0_1 l0_1.length c0_1, .slice A0_2 l0_2.length c0_2, .slice A0_3 l0_3.length c0_3] 30 (0, 0))) ∧ (w'.heap[gb316]? = some (.cells #[.int .i64 a2_0, .int .i64 a2_1, .int .i64 a2_2, .int .i64 a2_3, .int .i64 a2_4] 50 (0, 0))) ∧ (w'.heap[s_]? = some (.cells #[.int .i64 0, .int .i64 0, .int .i64 0, .int .i64 0, .int .i64 0, .int .i64 0] 83 (0, 0))) ∧ (w.heap.size ≤ s_) ∧ (w.heap.size ≤ s_) ∧ (gb315 ≠ s_) ∧ (s_ ≠ gb315) ∧ (gb316 ≠ s_) ∧ (s_ ≠ gb316) ∧ (Below w.heap.size w w')) ?_ ?_
                      rotate_left
                      · intro hJ14
                        refine two_ (i := 1) (j := 14) (Ni := some 32) (Nj := some 16) #[true, true, true, true, false, true, false, true, true, true, false, false, false, false, false, false, false] #[true, false, true, true, false, true, false, true, true, true, false, false, false, false, true, false, false] rfl rfl rfl rfl (two_of HT_.out z14_38) (by decide) (by decide) (fun K hK => ?_) (fun K hK => ?_)
                        · skip
                          refine goes_ Try.func22 z14_38 rfl #[.agg #[.int .i64 a0_0, .slice A0_1 l0_1.length c0_1, .slice A0_2 l0_2.length c0_2, .slice A0_3 l0_3.length c0_3]] (by rfl) rfl rfl z14_4 ?_
                          with_reducible refine (laws_toAllowed.calls k a0_0 _ _ l0_1 _ _ l0_2 _ _ l0_3 t318 t319 t322 t325 _ ?side1 ?side2 ?side3 ?side4 ?side5 ?side6 A18.out).mono ?_
                          (case side1 => repeat (first | exact (Kd.C_below HR0_1.out HB.out) | (with_reducible refine Kd.C_alloc ?_ _) | (with_reducible refine Kd.C_drewN ?_ _) | (with_reducible refine Kd.C_drew ?_)))
                          (case side2 => exact HC0_1.out)
                          (case side3 => repeat (first | exact (Kd.C_below HR0_2.out HB.out) | (with_reducible refine Kd.C_alloc ?_ _) | (with_reducible refine Kd.C_drewN ?_ _) | (with_reducible refine Kd.C_drew ?_)))
                          (case side4 => exact HC0_2.out)
                          (case side5 => repeat (first | exact (Kd.C_below HR0_3.out HB.out) | (with_reducible refine Kd.C_alloc ?_ _) | (with_reducible refine Kd.C_drewN ?_ _) | (with_reducible refine Kd.C_drew ?_)))
                          (case side6 => exact HC0_3.out)
                          rintro e w33 ⟨v320, v323, v326, rfl, ho0, ho1, ho2, hb⟩
                          refine ⟨_, rfl, ?_⟩
                          have n0_ := Aside0.mk (Kd.R_lower ho0 (below_size z14_1))
                          have n1_ := Aside0.mk (Kd.R_lower ho1 (below_size z14_1))
                          have n2_ := Aside0.mk (Kd.R_lower ho2 (below_size z14_1))
                          have n3_ := Aside0.mk (blk_below (g := gb315) (o := .cells #[.int .i64 a0_0, .slice A0_1 l0_1.length c0_1, .slice A0_2 l0_2.length c0_2, .slice A0_3 l0_3.length c0_3] 30 (0, 0)) (pB14_ BK315.out) hb)
                          have n4_ := Aside0.mk (blk_below (g := gb316) (o := .cells #[.int .i64 a2_0, .int .i64 a2_1, .int .i64 a2_2, .int .i64 a2_3, .int .i64 a2_4] 50 (0, 0)) (pB14_ BK316.out) hb)
                          have n5_ := Aside0.mk (below_step z14_1 hb)
                          clear BK315
                          clear BK316
                          clear HB
                          have HO321 := n0_
                          have HO324 := n1_
                          have HO327 := n2_
                          have BK315 := n3_
                          have BK316 := n4_
                          have HB := n5_
                          clear n0_ n1_ n2_ n3_ n4_ n5_
                          (try clear hb)
                          (try clear hb2)
                          (try clear hk)
                          (try clear hi)
                          (try clear ho0)
                          (try clear ho1)
                          (try clear ho2)
                          refine hK.out _ _ ⟨(blk_cell BK315.out 0).trans rfl, (blk_cell BK315.out 1).trans rfl, (blk_cell BK315.out 2).trans rfl, (blk_cell BK315.out 3).trans rfl, (blk_cell BK316.out 0).trans rfl, (blk_cell BK316.out 1).trans rfl, (blk_cell BK316.out 2).trans rfl, (blk_cell BK316.out 3).trans rfl, (blk_cell BK316.out 4).trans rfl⟩ (fun hHeld => ?_)
                          clear hK K
                          refine norm_ (a' := ?_) ?_ ?_
                          rotate_left
                          · show Act.put _ (some 32) _ = _
                            simp only [Act.put, List.setIfInBounds_toArray, List.set_cons_zero, List.set_cons_succ, i64_w, i32_w]
                            rfl
                          exact norm_ z14_5 (hJ1 (v320, v323, v326) _ ⟨hHeld, (pR14_ HO321.out), (pR14_ HO324.out), (pR14_ HO327.out), (pB14_ BK315.out), (pB14_ BK316.out), z14_1⟩)
                        · skip
                          refine box_step ?hg (N := 16) ?hd (cs := #[.int .i64 0, .int .i64 0, .int .i64 0, .int .i64 0, .int .i64 0, .int .i64 0]) (t := 83) ?hr ?_; (case hd => rfl); (case hg => rfl); (case hr => first | (go_simp; done) | (go_simp; rfl))
                          intro gb343 hg w33 hbox hb
                          have n0_ := Aside0.mk (blk_below (g := gb315) (o := .cells #[.int .i64 a0_0, .slice A0_1 l0_1.length c0_1, .slice A0_2 l0_2.length c0_2, .slice A0_3 l0_3.length c0_3] 30 (0, 0)) (pB14_ BK315.out) hb)
                          have n1_ := Aside0.mk (blk_below (g := gb316) (o := .cells #[.int .i64 a2_0, .int .i64 a2_1, .int .i64 a2_2, .int .i64 a2_3, .int .i64 a2_4] 50 (0, 0)) (pB14_ BK316.out) hb)
                          have n2_ := Aside0.mk (below_step z14_1 hb)
                          have n3_ := Aside0.mk (hbox)
                          have n4_ := Aside0.mk ((z14_49 : w.heap.size ≤ gb343))
                          have n5_ := Aside0.mk ((z14_49 : w.heap.size ≤ gb343))
                          have n6_ := Aside0.mk ((z14_6 : gb315 ≠ gb343))
                          have n7_ := Aside0.mk ((z14_7 : gb343 ≠ gb315))
                          have n8_ := Aside0.mk ((z14_13 : gb316 ≠ gb343))
                          have n9_ := Aside0.mk ((z14_14 : gb343 ≠ gb316))
                          clear BK315
                          clear BK316
                          clear HB
                          have BK315 := n0_
                          have BK316 := n1_
                          have HB := n2_
                          have BK343 := n3_
                          have GW343 := n4_
                          have GE343 := n5_
                          have NB315_343 := n6_
                          have NB343_315 := n7_
                          have NB316_343 := n8_
                          have NB343_316 := n9_
                          clear n0_ n1_ n2_ n3_ n4_ n5_ n6_ n7_ n8_ n9_
                          clear hb hbox hg
                          refine hK.out _ _ ⟨(blk_cell BK315.out 0).trans rfl, (blk_cell BK315.out 1).trans rfl, (blk_cell BK315.out 2).trans rfl, (blk_cell BK315.out 3).trans rfl, (blk_cell BK316.out 0).trans rfl, (blk_cell BK316.out 1).trans rfl, (blk_cell BK316.out 2).trans rfl, (blk_cell BK316.out 3).trans rfl, (blk_cell BK316.out 4).trans rfl⟩ (fun hHeld => ?_)
                          clear hK K
                          refine norm_ (a' := ?_) ?_ ?_
                          rotate_left
                          · show Act.put _ (some 16) _ = _
                            simp only [Act.put, List.setIfInBounds_toArray, List.set_cons_zero, List.set_cons_succ, i64_w, i32_w]
                            rfl
                          exact norm_ z14_5 (hJ14 (gb343) _ ⟨hHeld, (pB14_ BK315.out), (pB14_ BK316.out), (pB14_ BK343.out), GW343.out, GE343.out, NB315_343.out, NB343_315.out, NB316_343.out, NB343_316.out, z14_0⟩)
                      · skip
                        rintro gb343 w34 ⟨hS_, h0_, h1_, h2_, h3_, h4_, h5_, h6_, h7_, h8_, h9_⟩
                        have n0_ : Aside0 (w34.heap[gb315]? = some (.cells #[.int .i64 a0_0, .slice A0_1 l0_1.length c0_1, .slice A0_2 l0_2.length c0_2, .slice A0_3 l0_3.length c0_3] 30 (0, 0))) := ⟨h0_⟩
                        have n1_ : Aside0 (w34.heap[gb316]? = some (.cells #[.int .i64 a2_0, .int .i64 a2_1, .int .i64 a2_2, .int .i64 a2_3, .int .i64 a2_4] 50 (0, 0))) := ⟨h1_⟩
                        have n2_ : Aside0 (w34.heap[gb343]? = some (.cells #[.int .i64 0, .int .i64 0, .int .i64 0, .int .i64 0, .int .i64 0, .int .i64 0] 83 (0, 0))) := ⟨h2_⟩
                        have n3_ : Aside0 (w.heap.size ≤ gb343) := ⟨h3_⟩
                        have n4_ : Aside0 (w.heap.size ≤ gb343) := ⟨h4_⟩
                        have n5_ : Aside0 (gb315 ≠ gb343) := ⟨h5_⟩
                        have n6_ : Aside0 (gb343 ≠ gb315) := ⟨h6_⟩
                        have n7_ : Aside0 (gb316 ≠ gb343) := ⟨h7_⟩
                        have n8_ : Aside0 (gb343 ≠ gb316) := ⟨h8_⟩
                        have n9_ : Aside0 (Below w.heap.size w w34) := ⟨h9_⟩
                        clear BK315
                        clear BK316
                        clear HB
                        clear h0_ h1_ h2_ h3_ h4_ h5_ h6_ h7_ h8_ h9_
                        have BK315 := n0_
                        have BK316 := n1_
                        have BK343 := n2_
                        have GW343 := n3_
                        have GE343 := n4_
                        have NB315_343 := n5_
                        have NB343_315 := n6_
                        have NB316_343 := n7_
                        have NB343_316 := n8_
                        have HB := n9_
                        clear n0_ n1_ n2_ n3_ n4_ n5_ n6_ n7_ n8_ n9_
                        have hHeld : w34.cell? ⟨gb315, 0, none⟩ = some (.int .i64 a0_0) ∧ w34.cell? ⟨gb315, 1, none⟩ = some (.slice A0_1 l0_1.length c0_1) ∧ w34.cell? ⟨gb315, 2, none⟩ = some (.slice A0_2 l0_2.length c0_2) ∧ w34.cell? ⟨gb315, 3, none⟩ = some (.slice A0_3 l0_3.length c0_3) ∧ w34.cell? ⟨gb316, 0, none⟩ = some (.int .i64 a2_0) ∧ w34.cell? ⟨gb316, 1, none⟩ = some (.int .i64 a2_1) ∧ w34.cell? ⟨gb316, 2, none⟩ = some (.int .i64 a2_2) ∧ w34.cell? ⟨gb316, 3, none⟩ = some (.int .i64 a2_3) ∧ w34.cell? ⟨gb316, 4, none⟩ = some (.int .i64 a2_4) := hS_
                        refine norm_ (a' := ?_) ?_ ?_
                        rotate_left
                        · simp only [putAll, Act.put, List.setIfInBounds_toArray, List.set_cons_zero, List.set_cons_succ]
                          rfl
                        refine one_ (i := 1) (N := some 32) #[true, true, true, true, false, true, false, true, true, true, false, false, false, false, true, false, false] rfl rfl (one_of HT_.out z14_38) (by decide) (fun K hK => ?_)
                        refine goes_ Try.func22 z14_38 rfl #[.agg #[.int .i64 a0_0, .slice A0_1 l0_1.length c0_1, .slice A0_2 l0_2.length c0_2, .slice A0_3 l0_3.length c0_3]] (by rfl) rfl rfl z14_4 ?_
                        with_reducible refine (laws_toAllowed.calls k a0_0 _ _ l0_1 _ _ l0_2 _ _ l0_3 t318 t319 t322 t325 _ ?side1 ?side2 ?side3 ?side4 ?side5 ?side6 A18.out).mono ?_
                        (case side1 => repeat (first | exact (Kd.C_below HR0_1.out HB.out) | (with_reducible refine Kd.C_alloc ?_ _) | (with_reducible refine Kd.C_drewN ?_ _) | (with_reducible refine Kd.C_drew ?_)))
                        (case side2 => exact HC0_1.out)
                        (case side3 => repeat (first | exact (Kd.C_below HR0_2.out HB.out) | (with_reducible refine Kd.C_alloc ?_ _) | (with_reducible refine Kd.C_drewN ?_ _) | (with_reducible refine Kd.C_drew ?_)))
                        (case side4 => exact HC0_2.out)
                        (case side5 => repeat (first | exact (Kd.C_below HR0_3.out HB.out) | (with_reducible refine Kd.C_alloc ?_ _) | (with_reducible refine Kd.C_drewN ?_ _) | (with_reducible refine Kd.C_drew ?_)))
                        (case side6 => exact HC0_3.out)
                        rintro e w35 ⟨v320, v323, v326, rfl, ho0, ho1, ho2, hb⟩
                        refine ⟨_, rfl, ?_⟩
                        have n0_ := Aside0.mk (Kd.R_lower ho0 (below_size z14_0))
                        have n1_ := Aside0.mk (Kd.R_lower ho1 (below_size z14_0))
                        have n2_ := Aside0.mk (Kd.R_lower ho2 (below_size z14_0))
                        have n3_ := Aside0.mk (blk_below (g := gb315) (o := .cells #[.int .i64 a0_0, .slice A0_1 l0_1.length c0_1, .slice A0_2 l0_2.length c0_2, .slice A0_3 l0_3.length c0_3] 30 (0, 0)) (pB14_ BK315.out) hb)
                        have n4_ := Aside0.mk (blk_below (g := gb316) (o := .cells #[.int .i64 a2_0, .int .i64 a2_1, .int .i64 a2_2, .int .i64 a2_3, .int .i64 a2_4] 50 (0, 0)) (pB14_ BK316.out) hb)
                        have n5_ := Aside0.mk (blk_below (g := gb343) (o := .cells #[.int .i64 0, .int .i64 0, .int .i64 0, .int .i64 0, .int .i64 0, .int .i64 0] 83 (0, 0)) (pB14_ BK343.out) hb)
                        have n6_ := Aside0.mk (below_step z14_0 hb)
                        clear BK315
                        clear BK316
                        clear BK343
                        clear HB
                        have HO321 := n0_
                        have HO324 := n1_
                        have HO327 := n2_
                        have BK315 := n3_
                        have BK316 := n4_
                        have BK343 := n5_
                        have HB := n6_
                        clear n0_ n1_ n2_ n3_ n4_ n5_ n6_
                        (try clear hb)
                        (try clear hb2)
                        (try clear hk)
                        (try clear hi)
                        (try clear ho0)
                        (try clear ho1)
                        (try clear ho2)
                        refine hK.out _ _ ⟨(blk_cell BK315.out 0).trans rfl, (blk_cell BK315.out 1).trans rfl, (blk_cell BK315.out 2).trans rfl, (blk_cell BK315.out 3).trans rfl, (blk_cell BK316.out 0).trans rfl, (blk_cell BK316.out 1).trans rfl, (blk_cell BK316.out 2).trans rfl, (blk_cell BK316.out 3).trans rfl, (blk_cell BK316.out 4).trans rfl⟩ (fun hHeld => ?_)
                        clear hK K
                        refine norm_ (a' := ?_) ?_ ?_
                        rotate_left
                        · show Act.put _ (some 32) _ = _
                          simp only [Act.put, List.setIfInBounds_toArray, List.set_cons_zero, List.set_cons_succ, i64_w, i32_w]
                          rfl
                        exact norm_ z14_5 (hJ1_14 (v320, v323, v326, gb343) _ ⟨hHeld, (pR14_ HO321.out), (pR14_ HO324.out), (pR14_ HO327.out), (pB14_ BK315.out), (pB14_ BK316.out), (pB14_ BK343.out), GW343.out, GE343.out, NB315_343.out, NB343_315.out, NB316_343.out, NB343_316.out, z14_0⟩)
                    · skip
                      rintro ⟨v320, v323, v326⟩ w34 ⟨hS_, h0_, h1_, h2_, h3_, h4_, h5_⟩
                      have n0_ : Aside0 (Kd.R (Kd.int .i64) 3 w34 w.heap.size (fun k_ => some k_ ≠ (v323 : Value).ownBlock ∧ some k_ ≠ (v326 : Value).ownBlock) v320 t319) := ⟨h0_⟩
                      have n1_ : Aside0 (Kd.R (Kd.int .i64) 3 w34 w.heap.size (fun k_ => some k_ ≠ (v320 : Value).ownBlock ∧ some k_ ≠ (v326 : Value).ownBlock) v323 t322) := ⟨h1_⟩
                      have n2_ : Aside0 (Kd.R (Kd.int .i64) 3 w34 w.heap.size (fun k_ => some k_ ≠ (v320 : Value).ownBlock ∧ some k_ ≠ (v323 : Value).ownBlock) v326 t325) := ⟨h2_⟩
                      have n3_ : Aside0 (w34.heap[gb315]? = some (.cells #[.int .i64 a0_0, .slice A0_1 l0_1.length c0_1, .slice A0_2 l0_2.length c0_2, .slice A0_3 l0_3.length c0_3] 30 (0, 0))) := ⟨h3_⟩
                      have n4_ : Aside0 (w34.heap[gb316]? = some (.cells #[.int .i64 a2_0, .int .i64 a2_1, .int .i64 a2_2, .int .i64 a2_3, .int .i64 a2_4] 50 (0, 0))) := ⟨h4_⟩
                      have n5_ : Aside0 (Below w.heap.size w w34) := ⟨h5_⟩
                      clear BK315
                      clear BK316
                      clear HB
                      clear h0_ h1_ h2_ h3_ h4_ h5_
                      have HO321 := n0_
                      have HO324 := n1_
                      have HO327 := n2_
                      have BK315 := n3_
                      have BK316 := n4_
                      have HB := n5_
                      clear n0_ n1_ n2_ n3_ n4_ n5_
                      have hHeld : w34.cell? ⟨gb315, 0, none⟩ = some (.int .i64 a0_0) ∧ w34.cell? ⟨gb315, 1, none⟩ = some (.slice A0_1 l0_1.length c0_1) ∧ w34.cell? ⟨gb315, 2, none⟩ = some (.slice A0_2 l0_2.length c0_2) ∧ w34.cell? ⟨gb315, 3, none⟩ = some (.slice A0_3 l0_3.length c0_3) ∧ w34.cell? ⟨gb316, 0, none⟩ = some (.int .i64 a2_0) ∧ w34.cell? ⟨gb316, 1, none⟩ = some (.int .i64 a2_1) ∧ w34.cell? ⟨gb316, 2, none⟩ = some (.int .i64 a2_2) ∧ w34.cell? ⟨gb316, 3, none⟩ = some (.int .i64 a2_3) ∧ w34.cell? ⟨gb316, 4, none⟩ = some (.int .i64 a2_4) := hS_
                      refine norm_ (a' := ?_) ?_ ?_
                      rotate_left
                      · simp only [putAll, Act.put, List.setIfInBounds_toArray, List.set_cons_zero, List.set_cons_succ]
                        rfl
                      refine two_ (i := 4) (j := 14) (Ni := some 35) (Nj := some 16) #[true, true, true, true, true, true, false, true, true, true, false, false, false, false, false, false, false] #[true, true, true, true, false, true, false, true, true, true, false, false, false, false, true, false, false] rfl rfl rfl rfl (two_of HT_.out z14_38) (by decide) (by decide) (fun K hK => ?_) (fun K hK => ?_)
                      · skip
                        refine goes_ Try.func37 z14_38 rfl #[.agg #[.int .i64 a2_0, .int .i64 a2_1, .int .i64 a2_2, .int .i64 a2_3, .int .i64 a2_4]] (by rfl) rfl rfl z14_4 ?_
                        with_reducible refine (laws_toQuote.calls a2_0 a2_1 a2_2 a2_3 a2_4 t328 t329 t330 t331 t332 _ A19.out).mono ?_
                        rintro e w35 ⟨rfl, hb⟩
                        refine ⟨_, rfl, ?_⟩
                        have n0_ := Aside0.mk (Kd.R_below (pR14_ HO321.out) hb)
                        have n1_ := Aside0.mk (Kd.R_below (pR14_ HO324.out) hb)
                        have n2_ := Aside0.mk (Kd.R_below (pR14_ HO327.out) hb)
                        have n3_ := Aside0.mk (blk_below (g := gb315) (o := .cells #[.int .i64 a0_0, .slice A0_1 l0_1.length c0_1, .slice A0_2 l0_2.length c0_2, .slice A0_3 l0_3.length c0_3] 30 (0, 0)) (pB14_ BK315.out) hb)
                        have n4_ := Aside0.mk (blk_below (g := gb316) (o := .cells #[.int .i64 a2_0, .int .i64 a2_1, .int .i64 a2_2, .int .i64 a2_3, .int .i64 a2_4] 50 (0, 0)) (pB14_ BK316.out) hb)
                        have n5_ := Aside0.mk (below_step z14_1 hb)
                        clear HO321
                        clear HO324
                        clear HO327
                        clear BK315
                        clear BK316
                        clear HB
                        have HO321 := n0_
                        have HO324 := n1_
                        have HO327 := n2_
                        have BK315 := n3_
                        have BK316 := n4_
                        have HB := n5_
                        clear n0_ n1_ n2_ n3_ n4_ n5_
                        (try clear hb)
                        (try clear hb2)
                        (try clear hk)
                        (try clear hi)
                        refine hK.out _ _ ⟨(blk_cell BK315.out 0).trans rfl, (blk_cell BK315.out 1).trans rfl, (blk_cell BK315.out 2).trans rfl, (blk_cell BK315.out 3).trans rfl, (blk_cell BK316.out 0).trans rfl, (blk_cell BK316.out 1).trans rfl, (blk_cell BK316.out 2).trans rfl, (blk_cell BK316.out 3).trans rfl, (blk_cell BK316.out 4).trans rfl⟩ (fun hHeld => ?_)
                        clear hK K
                        refine norm_ (a' := ?_) ?_ ?_
                        rotate_left
                        · show Act.put _ (some 35) _ = _
                          simp only [Act.put, List.setIfInBounds_toArray, List.set_cons_zero, List.set_cons_succ, i64_w, i32_w]
                          rfl
                        exact norm_ z14_5 (hJ1_4 (v320, v323, v326) _ ⟨hHeld, (pR14_ HO321.out), (pR14_ HO324.out), (pR14_ HO327.out), (pB14_ BK315.out), (pB14_ BK316.out), z14_1⟩)
                      · skip
                        refine box_step ?hg (N := 16) ?hd (cs := #[.int .i64 0, .int .i64 0, .int .i64 0, .int .i64 0, .int .i64 0, .int .i64 0]) (t := 83) ?hr ?_; (case hd => rfl); (case hg => rfl); (case hr => first | (go_simp; done) | (go_simp; rfl))
                        intro gb343 hg w35 hbox hb
                        have n0_ := Aside0.mk (Kd.R_below (pR14_ HO321.out) hb)
                        have n1_ := Aside0.mk (Kd.R_below (pR14_ HO324.out) hb)
                        have n2_ := Aside0.mk (Kd.R_below (pR14_ HO327.out) hb)
                        have n3_ := Aside0.mk (blk_below (g := gb315) (o := .cells #[.int .i64 a0_0, .slice A0_1 l0_1.length c0_1, .slice A0_2 l0_2.length c0_2, .slice A0_3 l0_3.length c0_3] 30 (0, 0)) (pB14_ BK315.out) hb)
                        have n4_ := Aside0.mk (blk_below (g := gb316) (o := .cells #[.int .i64 a2_0, .int .i64 a2_1, .int .i64 a2_2, .int .i64 a2_3, .int .i64 a2_4] 50 (0, 0)) (pB14_ BK316.out) hb)
                        have n5_ := Aside0.mk (below_step z14_1 hb)
                        have n6_ := Aside0.mk (hbox)
                        have n7_ := Aside0.mk ((z14_49 : w.heap.size ≤ gb343))
                        have n8_ := Aside0.mk ((z14_49 : w.heap.size ≤ gb343))
                        have n9_ := Aside0.mk ((z14_6 : gb315 ≠ gb343))
                        have n10_ := Aside0.mk ((z14_7 : gb343 ≠ gb315))
                        have n11_ := Aside0.mk ((z14_13 : gb316 ≠ gb343))
                        have n12_ := Aside0.mk ((z14_14 : gb343 ≠ gb316))
                        clear HO321
                        clear HO324
                        clear HO327
                        clear BK315
                        clear BK316
                        clear HB
                        have HO321 := n0_
                        have HO324 := n1_
                        have HO327 := n2_
                        have BK315 := n3_
                        have BK316 := n4_
                        have HB := n5_
                        have BK343 := n6_
                        have GW343 := n7_
                        have GE343 := n8_
                        have NB315_343 := n9_
                        have NB343_315 := n10_
                        have NB316_343 := n11_
                        have NB343_316 := n12_
                        clear n0_ n1_ n2_ n3_ n4_ n5_ n6_ n7_ n8_ n9_ n10_ n11_ n12_
                        clear hb hbox hg
                        refine hK.out _ _ ⟨(blk_cell BK315.out 0).trans rfl, (blk_cell BK315.out 1).trans rfl, (blk_cell BK315.out 2).trans rfl, (blk_cell BK315.out 3).trans rfl, (blk_cell BK316.out 0).trans rfl, (blk_cell BK316.out 1).trans rfl, (blk_cell BK316.out 2).trans rfl, (blk_cell BK316.out 3).trans rfl, (blk_cell BK316.out 4).trans rfl⟩ (fun hHeld => ?_)
                        clear hK K
                        refine norm_ (a' := ?_) ?_ ?_
                        rotate_left
                        · show Act.put _ (some 16) _ = _
                          simp only [Act.put, List.setIfInBounds_toArray, List.set_cons_zero, List.set_cons_succ, i64_w, i32_w]
                          rfl
                        exact norm_ z14_5 (hJ1_14 (v320, v323, v326, gb343) _ ⟨hHeld, (pR14_ HO321.out), (pR14_ HO324.out), (pR14_ HO327.out), (pB14_ BK315.out), (pB14_ BK316.out), (pB14_ BK343.out), GW343.out, GE343.out, NB315_343.out, NB343_315.out, NB316_343.out, NB343_316.out, z14_0⟩)
                  · skip
                    rintro ⟨v320, v323, v326, gb343⟩ w35 ⟨hS_, h0_, h1_, h2_, h3_, h4_, h5_, h6_, h7_, h8_, h9_, h10_, h11_, h12_⟩
                    have n0_ : Aside0 (Kd.R (Kd.int .i64) 3 w35 w.heap.size (fun k_ => some k_ ≠ (v323 : Value).ownBlock ∧ some k_ ≠ (v326 : Value).ownBlock) v320 t319) := ⟨h0_⟩
                    have n1_ : Aside0 (Kd.R (Kd.int .i64) 3 w35 w.heap.size (fun k_ => some k_ ≠ (v320 : Value).ownBlock ∧ some k_ ≠ (v326 : Value).ownBlock) v323 t322) := ⟨h1_⟩
                    have n2_ : Aside0 (Kd.R (Kd.int .i64) 3 w35 w.heap.size (fun k_ => some k_ ≠ (v320 : Value).ownBlock ∧ some k_ ≠ (v323 : Value).ownBlock) v326 t325) := ⟨h2_⟩
                    have n3_ : Aside0 (w35.heap[gb315]? = some (.cells #[.int .i64 a0_0, .slice A0_1 l0_1.length c0_1, .slice A0_2 l0_2.length c0_2, .slice A0_3 l0_3.length c0_3] 30 (0, 0))) := ⟨h3_⟩
                    have n4_ : Aside0 (w35.heap[gb316]? = some (.cells #[.int .i64 a2_0, .int .i64 a2_1, .int .i64 a2_2, .int .i64 a2_3, .int .i64 a2_4] 50 (0, 0))) := ⟨h4_⟩
                    have n5_ : Aside0 (w35.heap[gb343]? = some (.cells #[.int .i64 0, .int .i64 0, .int .i64 0, .int .i64 0, .int .i64 0, .int .i64 0] 83 (0, 0))) := ⟨h5_⟩
                    have n6_ : Aside0 (w.heap.size ≤ gb343) := ⟨h6_⟩
                    have n7_ : Aside0 (w.heap.size ≤ gb343) := ⟨h7_⟩
                    have n8_ : Aside0 (gb315 ≠ gb343) := ⟨h8_⟩
                    have n9_ : Aside0 (gb343 ≠ gb315) := ⟨h9_⟩
                    have n10_ : Aside0 (gb316 ≠ gb343) := ⟨h10_⟩
                    have n11_ : Aside0 (gb343 ≠ gb316) := ⟨h11_⟩
                    have n12_ : Aside0 (Below w.heap.size w w35) := ⟨h12_⟩
                    clear BK315
                    clear BK316
                    clear HB
                    clear h0_ h1_ h2_ h3_ h4_ h5_ h6_ h7_ h8_ h9_ h10_ h11_ h12_
                    have HO321 := n0_
                    have HO324 := n1_
                    have HO327 := n2_
                    have BK315 := n3_
                    have BK316 := n4_
                    have BK343 := n5_
                    have GW343 := n6_
                    have GE343 := n7_
                    have NB315_343 := n8_
                    have NB343_315 := n9_
                    have NB316_343 := n10_
                    have NB343_316 := n11_
                    have HB := n12_
                    clear n0_ n1_ n2_ n3_ n4_ n5_ n6_ n7_ n8_ n9_ n10_ n11_ n12_
                    have hHeld : w35.cell? ⟨gb315, 0, none⟩ = some (.int .i64 a0_0) ∧ w35.cell? ⟨gb315, 1, none⟩ = some (.slice A0_1 l0_1.length c0_1) ∧ w35.cell? ⟨gb315, 2, none⟩ = some (.slice A0_2 l0_2.length c0_2) ∧ w35.cell? ⟨gb315, 3, none⟩ = some (.slice A0_3 l0_3.length c0_3) ∧ w35.cell? ⟨gb316, 0, none⟩ = some (.int .i64 a2_0) ∧ w35.cell? ⟨gb316, 1, none⟩ = some (.int .i64 a2_1) ∧ w35.cell? ⟨gb316, 2, none⟩ = some (.int .i64 a2_2) ∧ w35.cell? ⟨gb316, 3, none⟩ = some (.int .i64 a2_3) ∧ w35.cell? ⟨gb316, 4, none⟩ = some (.int .i64 a2_4) := hS_
                    refine norm_ (a' := ?_) ?_ ?_
                    rotate_left
                    · simp only [putAll, Act.put, List.setIfInBounds_toArray, List.set_cons_zero, List.set_cons_succ]
                      rfl
                    refine one_ (i := 4) (N := some 35) #[true, true, true, true, true, true, false, true, true, true, false, false, false, false, true, false, false] rfl rfl (one_of HT_.out z14_38) (by decide) (fun K hK => ?_)
                    refine goes_ Try.func37 z14_38 rfl #[.agg #[.int .i64 a2_0, .int .i64 a2_1, .int .i64 a2_2, .int .i64 a2_3, .int .i64 a2_4]] (by rfl) rfl rfl z14_4 ?_
                    with_reducible refine (laws_toQuote.calls a2_0 a2_1 a2_2 a2_3 a2_4 t328 t329 t330 t331 t332 _ A19.out).mono ?_
                    rintro e w36 ⟨rfl, hb⟩
                    refine ⟨_, rfl, ?_⟩
                    have n0_ := Aside0.mk (Kd.R_below (pR14_ HO321.out) hb)
                    have n1_ := Aside0.mk (Kd.R_below (pR14_ HO324.out) hb)
                    have n2_ := Aside0.mk (Kd.R_below (pR14_ HO327.out) hb)
                    have n3_ := Aside0.mk (blk_below (g := gb315) (o := .cells #[.int .i64 a0_0, .slice A0_1 l0_1.length c0_1, .slice A0_2 l0_2.length c0_2, .slice A0_3 l0_3.length c0_3] 30 (0, 0)) (pB14_ BK315.out) hb)
                    have n4_ := Aside0.mk (blk_below (g := gb316) (o := .cells #[.int .i64 a2_0, .int .i64 a2_1, .int .i64 a2_2, .int .i64 a2_3, .int .i64 a2_4] 50 (0, 0)) (pB14_ BK316.out) hb)
                    have n5_ := Aside0.mk (blk_below (g := gb343) (o := .cells #[.int .i64 0, .int .i64 0, .int .i64 0, .int .i64 0, .int .i64 0, .int .i64 0] 83 (0, 0)) (pB14_ BK343.out) hb)
                    have n6_ := Aside0.mk (below_step z14_0 hb)
                    clear HO321
                    clear HO324
                    clear HO327
                    clear BK315
                    clear BK316
                    clear BK343
                    clear HB
                    have HO321 := n0_
                    have HO324 := n1_
                    have HO327 := n2_
                    have BK315 := n3_
                    have BK316 := n4_
                    have BK343 := n5_
                    have HB := n6_
                    clear n0_ n1_ n2_ n3_ n4_ n5_ n6_
                    (try clear hb)
                    (try clear hb2)
                    (try clear hk)
                    (try clear hi)
                    refine hK.out _ _ ⟨(blk_cell BK315.out 0).trans rfl, (blk_cell BK315.out 1).trans rfl, (blk_cell BK315.out 2).trans rfl, (blk_cell BK315.out 3).trans rfl, (blk_cell BK316.out 0).trans rfl, (blk_cell BK316.out 1).trans rfl, (blk_cell BK316.out 2).trans rfl, (blk_cell BK316.out 3).trans rfl, (blk_cell BK316.out 4).trans rfl⟩ (fun hHeld => ?_)
                    clear hK K
                    refine norm_ (a' := ?_) ?_ ?_
                    rotate_left
                    · show Act.put _ (some 35) _ = _
                      simp only [Act.put, List.setIfInBounds_toArray, List.set_cons_zero, List.set_cons_succ, i64_w, i32_w]
                      rfl
                    exact norm_ z14_5 (hJ1_4_14 (v320, v323, v326, gb343) _ ⟨hHeld, (pR14_ HO321.out), (pR14_ HO324.out), (pR14_ HO327.out), (pB14_ BK315.out), (pB14_ BK316.out), (pB14_ BK343.out), GW343.out, GE343.out, NB315_343.out, NB343_315.out, NB316_343.out, NB343_316.out, z14_0⟩)
                · skip
                  rintro ⟨v320, v323, v326⟩ w35 ⟨hS_, h0_, h1_, h2_, h3_, h4_, h5_⟩
                  have n0_ : Aside0 (Kd.R (Kd.int .i64) 3 w35 w.heap.size (fun k_ => some k_ ≠ (v323 : Value).ownBlock ∧ some k_ ≠ (v326 : Value).ownBlock) v320 t319) := ⟨h0_⟩
                  have n1_ : Aside0 (Kd.R (Kd.int .i64) 3 w35 w.heap.size (fun k_ => some k_ ≠ (v320 : Value).ownBlock ∧ some k_ ≠ (v326 : Value).ownBlock) v323 t322) := ⟨h1_⟩
                  have n2_ : Aside0 (Kd.R (Kd.int .i64) 3 w35 w.heap.size (fun k_ => some k_ ≠ (v320 : Value).ownBlock ∧ some k_ ≠ (v323 : Value).ownBlock) v326 t325) := ⟨h2_⟩
                  have n3_ : Aside0 (w35.heap[gb315]? = some (.cells #[.int .i64 a0_0, .slice A0_1 l0_1.length c0_1, .slice A0_2 l0_2.length c0_2, .slice A0_3 l0_3.length c0_3] 30 (0, 0))) := ⟨h3_⟩
                  have n4_ : Aside0 (w35.heap[gb316]? = some (.cells #[.int .i64 a2_0, .int .i64 a2_1, .int .i64 a2_2, .int .i64 a2_3, .int .i64 a2_4] 50 (0, 0))) := ⟨h4_⟩
                  have n5_ : Aside0 (Below w.heap.size w w35) := ⟨h5_⟩
                  clear BK315
                  clear BK316
                  clear HB
                  clear h0_ h1_ h2_ h3_ h4_ h5_
                  have HO321 := n0_
                  have HO324 := n1_
                  have HO327 := n2_
                  have BK315 := n3_
                  have BK316 := n4_
                  have HB := n5_
                  clear n0_ n1_ n2_ n3_ n4_ n5_
                  have hHeld : w35.cell? ⟨gb315, 0, none⟩ = some (.int .i64 a0_0) ∧ w35.cell? ⟨gb315, 1, none⟩ = some (.slice A0_1 l0_1.length c0_1) ∧ w35.cell? ⟨gb315, 2, none⟩ = some (.slice A0_2 l0_2.length c0_2) ∧ w35.cell? ⟨gb315, 3, none⟩ = some (.slice A0_3 l0_3.length c0_3) ∧ w35.cell? ⟨gb316, 0, none⟩ = some (.int .i64 a2_0) ∧ w35.cell? ⟨gb316, 1, none⟩ = some (.int .i64 a2_1) ∧ w35.cell? ⟨gb316, 2, none⟩ = some (.int .i64 a2_2) ∧ w35.cell? ⟨gb316, 3, none⟩ = some (.int .i64 a2_3) ∧ w35.cell? ⟨gb316, 4, none⟩ = some (.int .i64 a2_4) := hS_
                  refine norm_ (a' := ?_) ?_ ?_
                  rotate_left
                  · simp only [putAll, Act.put, List.setIfInBounds_toArray, List.set_cons_zero, List.set_cons_succ]
                    rfl
                  refine two_ (i := 6) (j := 14) (Ni := some 37) (Nj := some 16) #[true, true, true, true, true, true, true, true, true, true, false, false, false, false, false, false, false] #[true, true, true, true, true, true, false, true, true, true, false, false, false, false, true, false, false] rfl rfl rfl rfl (two_of HT_.out z14_38) (by decide) (by decide) (fun K hK => ?_) (fun K hK => ?_)
                  · skip
                    refine goes_ Try.func28 z14_38 rfl #[.slice A3 l3.length c3] (by rfl) rfl rfl z14_4 ?_
                    with_reducible refine (laws_toIntS.calls k _ _ l3 t333 _ ?side1 ?side2 A20.out).mono ?_
                    (case side1 => repeat (first | exact (Kd.C_below HR3.out HB.out) | (with_reducible refine Kd.C_alloc ?_ _) | (with_reducible refine Kd.C_drewN ?_ _) | (with_reducible refine Kd.C_drew ?_)))
                    (case side2 => exact HC3.out)
                    rintro e w36 ⟨v334, rfl, ho0, hb⟩
                    refine ⟨_, rfl, ?_⟩
                    have n0_ := Aside0.mk (Kd.R_elder' (pR14_ HO321.out) (Kd.R_base ho0) hb)
                    have n1_ := Aside0.mk (Kd.R_elder' (pR14_ HO324.out) (Kd.R_base ho0) hb)
                    have n2_ := Aside0.mk (Kd.R_elder' (pR14_ HO327.out) (Kd.R_base ho0) hb)
                    have n3_ := Aside0.mk (Kd.R_lower (Kd.R_new' (Kd.R_new' (Kd.R_new' ho0 (Kd.R_lt (pR14_ HO321.out))) (Kd.R_lt (pR14_ HO324.out))) (Kd.R_lt (pR14_ HO327.out))) (below_size z14_1))
                    have n4_ := Aside0.mk (blk_below (g := gb315) (o := .cells #[.int .i64 a0_0, .slice A0_1 l0_1.length c0_1, .slice A0_2 l0_2.length c0_2, .slice A0_3 l0_3.length c0_3] 30 (0, 0)) (pB14_ BK315.out) hb)
                    have n5_ := Aside0.mk (blk_below (g := gb316) (o := .cells #[.int .i64 a2_0, .int .i64 a2_1, .int .i64 a2_2, .int .i64 a2_3, .int .i64 a2_4] 50 (0, 0)) (pB14_ BK316.out) hb)
                    have n6_ := Aside0.mk (below_step z14_1 hb)
                    clear HO321
                    clear HO324
                    clear HO327
                    clear BK315
                    clear BK316
                    clear HB
                    have HO321 := n0_
                    have HO324 := n1_
                    have HO327 := n2_
                    have HO335 := n3_
                    have BK315 := n4_
                    have BK316 := n5_
                    have HB := n6_
                    clear n0_ n1_ n2_ n3_ n4_ n5_ n6_
                    (try clear hb)
                    (try clear hb2)
                    (try clear hk)
                    (try clear hi)
                    (try clear ho0)
                    refine hK.out _ _ ⟨(blk_cell BK315.out 0).trans rfl, (blk_cell BK315.out 1).trans rfl, (blk_cell BK315.out 2).trans rfl, (blk_cell BK315.out 3).trans rfl, (blk_cell BK316.out 0).trans rfl, (blk_cell BK316.out 1).trans rfl, (blk_cell BK316.out 2).trans rfl, (blk_cell BK316.out 3).trans rfl, (blk_cell BK316.out 4).trans rfl⟩ (fun hHeld => ?_)
                    clear hK K
                    refine norm_ (a' := ?_) ?_ ?_
                    rotate_left
                    · show Act.put _ (some 37) _ = _
                      simp only [Act.put, List.setIfInBounds_toArray, List.set_cons_zero, List.set_cons_succ, i64_w, i32_w]
                      rfl
                    exact norm_ z14_5 (hJ1_4_6 (v320, v323, v326, v334) _ ⟨hHeld, (by (with_reducible repeat (first | apply Kd.R_alloc | apply Kd.R_drewN | apply Kd.R_drew)); exact Kd.R_mono HO321.out (fun _ hk => ⟨hk.1.1, ⟨hk.1.2, hk.2⟩⟩)), (by (with_reducible repeat (first | apply Kd.R_alloc | apply Kd.R_drewN | apply Kd.R_drew)); exact Kd.R_mono HO324.out (fun _ hk => ⟨hk.1.1, ⟨hk.1.2, hk.2⟩⟩)), (by (with_reducible repeat (first | apply Kd.R_alloc | apply Kd.R_drewN | apply Kd.R_drew)); exact Kd.R_mono HO327.out (fun _ hk => ⟨hk.1.1, ⟨hk.1.2, hk.2⟩⟩)), (by (with_reducible repeat (first | apply Kd.R_alloc | apply Kd.R_drewN | apply Kd.R_drew)); exact Kd.R_mono HO335.out (fun _ hk => ⟨hk.1.1.2, ⟨hk.1.2, hk.2⟩⟩)), (pB14_ BK315.out), (pB14_ BK316.out), z14_1⟩)
                  · skip
                    refine box_step ?hg (N := 16) ?hd (cs := #[.int .i64 0, .int .i64 0, .int .i64 0, .int .i64 0, .int .i64 0, .int .i64 0]) (t := 83) ?hr ?_; (case hd => rfl); (case hg => rfl); (case hr => first | (go_simp; done) | (go_simp; rfl))
                    intro gb343 hg w36 hbox hb
                    have n0_ := Aside0.mk (Kd.R_below (pR14_ HO321.out) hb)
                    have n1_ := Aside0.mk (Kd.R_below (pR14_ HO324.out) hb)
                    have n2_ := Aside0.mk (Kd.R_below (pR14_ HO327.out) hb)
                    have n3_ := Aside0.mk (blk_below (g := gb315) (o := .cells #[.int .i64 a0_0, .slice A0_1 l0_1.length c0_1, .slice A0_2 l0_2.length c0_2, .slice A0_3 l0_3.length c0_3] 30 (0, 0)) (pB14_ BK315.out) hb)
                    have n4_ := Aside0.mk (blk_below (g := gb316) (o := .cells #[.int .i64 a2_0, .int .i64 a2_1, .int .i64 a2_2, .int .i64 a2_3, .int .i64 a2_4] 50 (0, 0)) (pB14_ BK316.out) hb)
                    have n5_ := Aside0.mk (below_step z14_1 hb)
                    have n6_ := Aside0.mk (hbox)
                    have n7_ := Aside0.mk ((z14_49 : w.heap.size ≤ gb343))
                    have n8_ := Aside0.mk ((z14_49 : w.heap.size ≤ gb343))
                    have n9_ := Aside0.mk ((z14_6 : gb315 ≠ gb343))
                    have n10_ := Aside0.mk ((z14_7 : gb343 ≠ gb315))
                    have n11_ := Aside0.mk ((z14_13 : gb316 ≠ gb343))
                    have n12_ := Aside0.mk ((z14_14 : gb343 ≠ gb316))
                    clear HO321
                    clear HO324
                    clear HO327
                    clear BK315
                    clear BK316
                    clear HB
                    have HO321 := n0_
                    have HO324 := n1_
                    have HO327 := n2_
                    have BK315 := n3_
                    have BK316 := n4_
                    have HB := n5_
                    have BK343 := n6_
                    have GW343 := n7_
                    have GE343 := n8_
                    have NB315_343 := n9_
                    have NB343_315 := n10_
                    have NB316_343 := n11_
                    have NB343_316 := n12_
                    clear n0_ n1_ n2_ n3_ n4_ n5_ n6_ n7_ n8_ n9_ n10_ n11_ n12_
                    clear hb hbox hg
                    refine hK.out _ _ ⟨(blk_cell BK315.out 0).trans rfl, (blk_cell BK315.out 1).trans rfl, (blk_cell BK315.out 2).trans rfl, (blk_cell BK315.out 3).trans rfl, (blk_cell BK316.out 0).trans rfl, (blk_cell BK316.out 1).trans rfl, (blk_cell BK316.out 2).trans rfl, (blk_cell BK316.out 3).trans rfl, (blk_cell BK316.out 4).trans rfl⟩ (fun hHeld => ?_)
                    clear hK K
                    refine norm_ (a' := ?_) ?_ ?_
                    rotate_left
                    · show Act.put _ (some 16) _ = _
                      simp only [Act.put, List.setIfInBounds_toArray, List.set_cons_zero, List.set_cons_succ, i64_w, i32_w]
                      rfl
                    exact norm_ z14_5 (hJ1_4_14 (v320, v323, v326, gb343) _ ⟨hHeld, (pR14_ HO321.out), (pR14_ HO324.out), (pR14_ HO327.out), (pB14_ BK315.out), (pB14_ BK316.out), (pB14_ BK343.out), GW343.out, GE343.out, NB315_343.out, NB343_315.out, NB316_343.out, NB343_316.out, z14_0⟩)
              · skip
                rintro ⟨v320, v323, v326, gb343⟩ w36 ⟨hS_, h0_, h1_, h2_, h3_, h4_, h5_, h6_, h7_, h8_, h9_, h10_, h11_, h12_⟩
                have n0_ : Aside0 (Kd.R (Kd.int .i64) 3 w36 w.heap.size (fun k_ => some k_ ≠ (v323 : Value).ownBlock ∧ some k_ ≠ (v326 : Value).ownBlock) v320 t319) := ⟨h0_⟩
                have n1_ : Aside0 (Kd.R (Kd.int .i64) 3 w36 w.heap.size (fun k_ => some k_ ≠ (v320 : Value).ownBlock ∧ some k_ ≠ (v326 : Value).ownBlock) v323 t322) := ⟨h1_⟩
                have n2_ : Aside0 (Kd.R (Kd.int .i64) 3 w36 w.heap.size (fun k_ => some k_ ≠ (v320 : Value).ownBlock ∧ some k_ ≠ (v323 : Value).ownBlock) v326 t325) := ⟨h2_⟩
                have n3_ : Aside0 (w36.heap[gb315]? = some (.cells #[.int .i64 a0_0, .slice A0_1 l0_1.length c0_1, .slice A0_2 l0_2.length c0_2, .slice A0_3 l0_3.length c0_3] 30 (0, 0))) := ⟨h3_⟩
                have n4_ : Aside0 (w36.heap[gb316]? = some (.cells #[.int .i64 a2_0, .int .i64 a2_1, .int .i64 a2_2, .int .i64 a2_3, .int .i64 a2_4] 50 (0, 0))) := ⟨h4_⟩
                have n5_ : Aside0 (w36.heap[gb343]? = some (.cells #[.int .i64 0, .int .i64 0, .int .i64 0, .int .i64 0, .int .i64 0, .int .i64 0] 83 (0, 0))) := ⟨h5_⟩
                have n6_ : Aside0 (w.heap.size ≤ gb343) := ⟨h6_⟩
                have n7_ : Aside0 (w.heap.size ≤ gb343) := ⟨h7_⟩
                have n8_ : Aside0 (gb315 ≠ gb343) := ⟨h8_⟩
                have n9_ : Aside0 (gb343 ≠ gb315) := ⟨h9_⟩
                have n10_ : Aside0 (gb316 ≠ gb343) := ⟨h10_⟩
                have n11_ : Aside0 (gb343 ≠ gb316) := ⟨h11_⟩
                have n12_ : Aside0 (Below w.heap.size w w36) := ⟨h12_⟩
                clear BK315
                clear BK316
                clear HB
                clear h0_ h1_ h2_ h3_ h4_ h5_ h6_ h7_ h8_ h9_ h10_ h11_ h12_
                have HO321 := n0_
                have HO324 := n1_
                have HO327 := n2_
                have BK315 := n3_
                have BK316 := n4_
                have BK343 := n5_
                have GW343 := n6_
                have GE343 := n7_
                have NB315_343 := n8_
                have NB343_315 := n9_
                have NB316_343 := n10_
                have NB343_316 := n11_
                have HB := n12_
                clear n0_ n1_ n2_ n3_ n4_ n5_ n6_ n7_ n8_ n9_ n10_ n11_ n12_
                have hHeld : w36.cell? ⟨gb315, 0, none⟩ = some (.int .i64 a0_0) ∧ w36.cell? ⟨gb315, 1, none⟩ = some (.slice A0_1 l0_1.length c0_1) ∧ w36.cell? ⟨gb315, 2, none⟩ = some (.slice A0_2 l0_2.length c0_2) ∧ w36.cell? ⟨gb315, 3, none⟩ = some (.slice A0_3 l0_3.length c0_3) ∧ w36.cell? ⟨gb316, 0, none⟩ = some (.int .i64 a2_0) ∧ w36.cell? ⟨gb316, 1, none⟩ = some (.int .i64 a2_1) ∧ w36.cell? ⟨gb316, 2, none⟩ = some (.int .i64 a2_2) ∧ w36.cell? ⟨gb316, 3, none⟩ = some (.int .i64 a2_3) ∧ w36.cell? ⟨gb316, 4, none⟩ = some (.int .i64 a2_4) := hS_
                refine norm_ (a' := ?_) ?_ ?_
                rotate_left
                · simp only [putAll, Act.put, List.setIfInBounds_toArray, List.set_cons_zero, List.set_cons_succ]
                  rfl
                refine one_ (i := 6) (N := some 37) #[true, true, true, true, true, true, true, true, true, true, false, false, false, false, true, false, false] rfl rfl (one_of HT_.out z14_38) (by decide) (fun K hK => ?_)
                refine goes_ Try.func28 z14_38 rfl #[.slice A3 l3.length c3] (by rfl) rfl rfl z14_4 ?_
                with_reducible refine (laws_toIntS.calls k _ _ l3 t333 _ ?side1 ?side2 A20.out).mono ?_
                (case side1 => repeat (first | exact (Kd.C_below HR3.out HB.out) | (with_reducible refine Kd.C_alloc ?_ _) | (with_reducible refine Kd.C_drewN ?_ _) | (with_reducible refine Kd.C_drew ?_)))
                (case side2 => exact HC3.out)
                rintro e w37 ⟨v334, rfl, ho0, hb⟩
                refine ⟨_, rfl, ?_⟩
                have n0_ := Aside0.mk (Kd.R_elder' (pR14_ HO321.out) (Kd.R_base ho0) hb)
                have n1_ := Aside0.mk (Kd.R_elder' (pR14_ HO324.out) (Kd.R_base ho0) hb)
                have n2_ := Aside0.mk (Kd.R_elder' (pR14_ HO327.out) (Kd.R_base ho0) hb)
                have n3_ := Aside0.mk (Kd.R_lower (Kd.R_new' (Kd.R_new' (Kd.R_new' ho0 (Kd.R_lt (pR14_ HO321.out))) (Kd.R_lt (pR14_ HO324.out))) (Kd.R_lt (pR14_ HO327.out))) (below_size z14_0))
                have n4_ := Aside0.mk (blk_below (g := gb315) (o := .cells #[.int .i64 a0_0, .slice A0_1 l0_1.length c0_1, .slice A0_2 l0_2.length c0_2, .slice A0_3 l0_3.length c0_3] 30 (0, 0)) (pB14_ BK315.out) hb)
                have n5_ := Aside0.mk (blk_below (g := gb316) (o := .cells #[.int .i64 a2_0, .int .i64 a2_1, .int .i64 a2_2, .int .i64 a2_3, .int .i64 a2_4] 50 (0, 0)) (pB14_ BK316.out) hb)
                have n6_ := Aside0.mk (blk_below (g := gb343) (o := .cells #[.int .i64 0, .int .i64 0, .int .i64 0, .int .i64 0, .int .i64 0, .int .i64 0] 83 (0, 0)) (pB14_ BK343.out) hb)
                have n7_ := Aside0.mk (below_step z14_0 hb)
                clear HO321
                clear HO324
                clear HO327
                clear BK315
                clear BK316
                clear BK343
                clear HB
                have HO321 := n0_
                have HO324 := n1_
                have HO327 := n2_
                have HO335 := n3_
                have BK315 := n4_
                have BK316 := n5_
                have BK343 := n6_
                have HB := n7_
                clear n0_ n1_ n2_ n3_ n4_ n5_ n6_ n7_
                (try clear hb)
                (try clear hb2)
                (try clear hk)
                (try clear hi)
                (try clear ho0)
                refine hK.out _ _ ⟨(blk_cell BK315.out 0).trans rfl, (blk_cell BK315.out 1).trans rfl, (blk_cell BK315.out 2).trans rfl, (blk_cell BK315.out 3).trans rfl, (blk_cell BK316.out 0).trans rfl, (blk_cell BK316.out 1).trans rfl, (blk_cell BK316.out 2).trans rfl, (blk_cell BK316.out 3).trans rfl, (blk_cell BK316.out 4).trans rfl⟩ (fun hHeld => ?_)
                clear hK K
                refine norm_ (a' := ?_) ?_ ?_
                rotate_left
                · show Act.put _ (some 37) _ = _
                  simp only [Act.put, List.setIfInBounds_toArray, List.set_cons_zero, List.set_cons_succ, i64_w, i32_w]
                  rfl
                exact norm_ z14_5 (hJ1_4_6_14 (v320, v323, v326, v334, gb343) _ ⟨hHeld, (by (with_reducible repeat (first | apply Kd.R_alloc | apply Kd.R_drewN | apply Kd.R_drew)); exact Kd.R_mono HO321.out (fun _ hk => ⟨hk.1.1, ⟨hk.1.2, hk.2⟩⟩)), (by (with_reducible repeat (first | apply Kd.R_alloc | apply Kd.R_drewN | apply Kd.R_drew)); exact Kd.R_mono HO324.out (fun _ hk => ⟨hk.1.1, ⟨hk.1.2, hk.2⟩⟩)), (by (with_reducible repeat (first | apply Kd.R_alloc | apply Kd.R_drewN | apply Kd.R_drew)); exact Kd.R_mono HO327.out (fun _ hk => ⟨hk.1.1, ⟨hk.1.2, hk.2⟩⟩)), (by (with_reducible repeat (first | apply Kd.R_alloc | apply Kd.R_drewN | apply Kd.R_drew)); exact Kd.R_mono HO335.out (fun _ hk => ⟨hk.1.1.2, ⟨hk.1.2, hk.2⟩⟩)), (pB14_ BK315.out), (pB14_ BK316.out), (pB14_ BK343.out), GW343.out, GE343.out, NB315_343.out, NB343_315.out, NB316_343.out, NB343_316.out, z14_0⟩)
            · skip
              rintro ⟨v320, v323, v326, v334⟩ w36 ⟨hS_, h0_, h1_, h2_, h3_, h4_, h5_, h6_⟩
              have n0_ : Aside0 (Kd.R (Kd.int .i64) 3 w36 w.heap.size (fun k_ => some k_ ≠ (v323 : Value).ownBlock ∧ some k_ ≠ (v326 : Value).ownBlock ∧ some k_ ≠ (v334 : Value).ownBlock) v320 t319) := ⟨h0_⟩
              have n1_ : Aside0 (Kd.R (Kd.int .i64) 3 w36 w.heap.size (fun k_ => some k_ ≠ (v320 : Value).ownBlock ∧ some k_ ≠ (v326 : Value).ownBlock ∧ some k_ ≠ (v334 : Value).ownBlock) v323 t322) := ⟨h1_⟩
              have n2_ : Aside0 (Kd.R (Kd.int .i64) 3 w36 w.heap.size (fun k_ => some k_ ≠ (v320 : Value).ownBlock ∧ some k_ ≠ (v323 : Value).ownBlock ∧ some k_ ≠ (v334 : Value).ownBlock) v326 t325) := ⟨h2_⟩
              have n3_ : Aside0 (Kd.R (Kd.int .i64) 3 w36 w.heap.size (fun k_ => some k_ ≠ (v320 : Value).ownBlock ∧ some k_ ≠ (v323 : Value).ownBlock ∧ some k_ ≠ (v326 : Value).ownBlock) v334 t333) := ⟨h3_⟩
              have n4_ : Aside0 (w36.heap[gb315]? = some (.cells #[.int .i64 a0_0, .slice A0_1 l0_1.length c0_1, .slice A0_2 l0_2.length c0_2, .slice A0_3 l0_3.length c0_3] 30 (0, 0))) := ⟨h4_⟩
              have n5_ : Aside0 (w36.heap[gb316]? = some (.cells #[.int .i64 a2_0, .int .i64 a2_1, .int .i64 a2_2, .int .i64 a2_3, .int .i64 a2_4] 50 (0, 0))) := ⟨h5_⟩
              have n6_ : Aside0 (Below w.heap.size w w36) := ⟨h6_⟩
              clear BK315
              clear BK316
              clear HB
              clear h0_ h1_ h2_ h3_ h4_ h5_ h6_
              have HO321 := n0_
              have HO324 := n1_
              have HO327 := n2_
              have HO335 := n3_
              have BK315 := n4_
              have BK316 := n5_
              have HB := n6_
              clear n0_ n1_ n2_ n3_ n4_ n5_ n6_
              have hHeld : w36.cell? ⟨gb315, 0, none⟩ = some (.int .i64 a0_0) ∧ w36.cell? ⟨gb315, 1, none⟩ = some (.slice A0_1 l0_1.length c0_1) ∧ w36.cell? ⟨gb315, 2, none⟩ = some (.slice A0_2 l0_2.length c0_2) ∧ w36.cell? ⟨gb315, 3, none⟩ = some (.slice A0_3 l0_3.length c0_3) ∧ w36.cell? ⟨gb316, 0, none⟩ = some (.int .i64 a2_0) ∧ w36.cell? ⟨gb316, 1, none⟩ = some (.int .i64 a2_1) ∧ w36.cell? ⟨gb316, 2, none⟩ = some (.int .i64 a2_2) ∧ w36.cell? ⟨gb316, 3, none⟩ = some (.int .i64 a2_3) ∧ w36.cell? ⟨gb316, 4, none⟩ = some (.int .i64 a2_4) := hS_
              obtain ⟨Ao37, co37, eo37⟩ := Kd.R_slice HO321.out
              (first | subst eo37 | (injection eo37 with f1_ f2_ f3_; have f4_ := f1_.symm; have f5_ := f3_.symm; clear f1_ f2_ f3_; subst f4_; subst f5_))
              obtain ⟨Ao38, co38, eo38⟩ := Kd.R_slice HO324.out
              (first | subst eo38 | (injection eo38 with f1_ f2_ f3_; have f4_ := f1_.symm; have f5_ := f3_.symm; clear f1_ f2_ f3_; subst f4_; subst f5_))
              obtain ⟨Ao39, co39, eo39⟩ := Kd.R_slice HO327.out
              (first | subst eo39 | (injection eo39 with f1_ f2_ f3_; have f4_ := f1_.symm; have f5_ := f3_.symm; clear f1_ f2_ f3_; subst f4_; subst f5_))
              obtain ⟨Ao40, co40, eo40⟩ := Kd.R_slice HO335.out
              (first | subst eo40 | (injection eo40 with f1_ f2_ f3_; have f4_ := f1_.symm; have f5_ := f3_.symm; clear f1_ f2_ f3_; subst f4_; subst f5_))
              refine norm_ (a' := ?_) ?_ ?_
              rotate_left
              · simp only [putAll, Act.put, List.setIfInBounds_toArray, List.set_cons_zero, List.set_cons_succ]
                rfl
              refine two_ (i := 10) (j := 14) (Ni := some 41) (Nj := some 16) #[true, true, true, true, true, true, true, true, true, true, true, false, false, false, false, false, false] #[true, true, true, true, true, true, true, true, true, true, false, false, false, false, true, false, false] rfl rfl rfl rfl (two_of HT_.out z14_38) (by decide) (by decide) (fun K hK => ?_) (fun K hK => ?_)
              · skip
                refine goes_ Try.func64 z14_38 rfl #[.agg #[.int .i64 t318, .slice Ao37 t319.length co37, .slice Ao38 t322.length co38, .slice Ao39 t325.length co39], .int .i64 a1, .agg #[.int .i64 t328, .int .i64 t329, .int .i64 t330, .int .i64 t331, .int .i64 t332], .slice Ao40 t333.length co40, .int .i64 a4, .int .i64 a5, .int .i64 a6] (by rfl) rfl rfl z14_4 ?_
                with_reducible refine (spec_HealthFact.calls k t318 _ _ t319 _ _ t322 _ _ t325 a1 t328 t329 t330 t331 t332 _ _ t333 a4 a5 a6 t336 t337 t338 t339 t340 t341 t342 _ ?side1 ?side2 ?side3 ?side4 ?side5 ?side6 ?side7 ?side8 A21.out).mono ?_
                (case side1 => repeat (first | exact (Kd.R_reads' HO321.out).2.2 | (with_reducible refine Kd.C_alloc ?_ _) | (with_reducible refine Kd.C_drewN ?_ _) | (with_reducible refine Kd.C_drew ?_)))
                (case side2 => exact (Kd.R_reads' HO321.out).2.1)
                (case side3 => repeat (first | exact (Kd.R_reads' HO324.out).2.2 | (with_reducible refine Kd.C_alloc ?_ _) | (with_reducible refine Kd.C_drewN ?_ _) | (with_reducible refine Kd.C_drew ?_)))
                (case side4 => exact (Kd.R_reads' HO324.out).2.1)
                (case side5 => repeat (first | exact (Kd.R_reads' HO327.out).2.2 | (with_reducible refine Kd.C_alloc ?_ _) | (with_reducible refine Kd.C_drewN ?_ _) | (with_reducible refine Kd.C_drew ?_)))
                (case side6 => exact (Kd.R_reads' HO327.out).2.1)
                (case side7 => repeat (first | exact (Kd.R_reads' HO335.out).2.2 | (with_reducible refine Kd.C_alloc ?_ _) | (with_reducible refine Kd.C_drewN ?_ _) | (with_reducible refine Kd.C_drew ?_)))
                (case side8 => exact (Kd.R_reads' HO335.out).2.1)
                rintro e w41 ⟨rfl, hb⟩
                refine ⟨_, rfl, ?_⟩
                have n0_ := Aside0.mk (Kd.R_below (pR14_ HO321.out) hb)
                have n1_ := Aside0.mk (Kd.R_below (pR14_ HO324.out) hb)
                have n2_ := Aside0.mk (Kd.R_below (pR14_ HO327.out) hb)
                have n3_ := Aside0.mk (Kd.R_below (pR14_ HO335.out) hb)
                have n4_ := Aside0.mk (blk_below (g := gb315) (o := .cells #[.int .i64 a0_0, .slice A0_1 l0_1.length c0_1, .slice A0_2 l0_2.length c0_2, .slice A0_3 l0_3.length c0_3] 30 (0, 0)) (pB14_ BK315.out) hb)
                have n5_ := Aside0.mk (blk_below (g := gb316) (o := .cells #[.int .i64 a2_0, .int .i64 a2_1, .int .i64 a2_2, .int .i64 a2_3, .int .i64 a2_4] 50 (0, 0)) (pB14_ BK316.out) hb)
                have n6_ := Aside0.mk (below_step z14_1 hb)
                clear HO321
                clear HO324
                clear HO327
                clear HO335
                clear BK315
                clear BK316
                clear HB
                have HO321 := n0_
                have HO324 := n1_
                have HO327 := n2_
                have HO335 := n3_
                have BK315 := n4_
                have BK316 := n5_
                have HB := n6_
                clear n0_ n1_ n2_ n3_ n4_ n5_ n6_
                (try clear hb)
                (try clear hb2)
                (try clear hk)
                (try clear hi)
                refine hK.out _ _ ⟨(blk_cell BK315.out 0).trans rfl, (blk_cell BK315.out 1).trans rfl, (blk_cell BK315.out 2).trans rfl, (blk_cell BK315.out 3).trans rfl, (blk_cell BK316.out 0).trans rfl, (blk_cell BK316.out 1).trans rfl, (blk_cell BK316.out 2).trans rfl, (blk_cell BK316.out 3).trans rfl, (blk_cell BK316.out 4).trans rfl⟩ (fun hHeld => ?_)
                clear hK K
                refine norm_ (a' := ?_) ?_ ?_
                rotate_left
                · show Act.put _ (some 41) _ = _
                  simp only [Act.put, List.setIfInBounds_toArray, List.set_cons_zero, List.set_cons_succ, i64_w, i32_w]
                  rfl
                refine pure_ (i := 11) (N := some 30) (v := ?_) (a' := ?_) #[true, true, true, true, true, true, true, true, true, true, true, true, false, false, false, false, false] rfl rfl (any_of HT_.out z14_38) (fun _ _ _ h => h) (Or.inl ⟨by rfl, ?_⟩) ?_ ?_
                rotate_left
                · intro w'
                  go_simp
                  with_reducible rfl
                rotate_left
                · simp only [Act.put, List.setIfInBounds_toArray, List.set_cons_zero, List.set_cons_succ, i64_w, i32_w]
                  rfl
                refine pure_ (i := 12) (N := some 42) (v := ?_) (a' := ?_) #[true, true, true, true, true, true, true, true, true, true, true, true, true, false, false, false, false] rfl rfl (any_of HT_.out z14_38) (fun _ _ _ h => h) (Or.inl ⟨by rfl, ?_⟩) ?_ ?_
                rotate_left
                · intro w'
                  go_simp
                  with_reducible rfl
                rotate_left
                · simp only [Act.put, List.setIfInBounds_toArray, List.set_cons_zero, List.set_cons_succ, i64_w, i32_w]
                  rfl
                refine pure_ (i := 13) (N := some 43) (v := ?_) (a' := ?_) #[true, true, true, true, true, true, true, true, true, true, true, true, true, true, false, false, false] rfl rfl (any_of HT_.out z14_38) (fun _ _ _ h => h) (Or.inl ⟨by rfl, ?_⟩) ?_ ?_
                rotate_left
                · intro w'
                  go_simp
                  with_reducible rfl
                rotate_left
                · simp only [Act.put, List.setIfInBounds_toArray, List.set_cons_zero, List.set_cons_succ, i64_w, i32_w]
                  rfl
                exact norm_ z14_5 (hJ1_4_6_10 (.slice Ao37 t319.length co37, .slice Ao38 t322.length co38, .slice Ao39 t325.length co39, .slice Ao40 t333.length co40) _ ⟨hHeld, (pR14_ HO321.out), (pR14_ HO324.out), (pR14_ HO327.out), (pR14_ HO335.out), (pB14_ BK315.out), (pB14_ BK316.out), z14_1⟩)
              · skip
                refine box_step ?hg (N := 16) ?hd (cs := #[.int .i64 0, .int .i64 0, .int .i64 0, .int .i64 0, .int .i64 0, .int .i64 0]) (t := 83) ?hr ?_; (case hd => rfl); (case hg => rfl); (case hr => first | (go_simp; done) | (go_simp; rfl))
                intro gb343 hg w37 hbox hb
                have n0_ := Aside0.mk (Kd.R_below (pR14_ HO321.out) hb)
                have n1_ := Aside0.mk (Kd.R_below (pR14_ HO324.out) hb)
                have n2_ := Aside0.mk (Kd.R_below (pR14_ HO327.out) hb)
                have n3_ := Aside0.mk (Kd.R_below (pR14_ HO335.out) hb)
                have n4_ := Aside0.mk (blk_below (g := gb315) (o := .cells #[.int .i64 a0_0, .slice A0_1 l0_1.length c0_1, .slice A0_2 l0_2.length c0_2, .slice A0_3 l0_3.length c0_3] 30 (0, 0)) (pB14_ BK315.out) hb)
                have n5_ := Aside0.mk (blk_below (g := gb316) (o := .cells #[.int .i64 a2_0, .int .i64 a2_1, .int .i64 a2_2, .int .i64 a2_3, .int .i64 a2_4] 50 (0, 0)) (pB14_ BK316.out) hb)
                have n6_ := Aside0.mk (below_step z14_1 hb)
                have n7_ := Aside0.mk (hbox)
                have n8_ := Aside0.mk ((z14_49 : w.heap.size ≤ gb343))
                have n9_ := Aside0.mk ((z14_49 : w.heap.size ≤ gb343))
                have n10_ := Aside0.mk ((z14_6 : gb315 ≠ gb343))
                have n11_ := Aside0.mk ((z14_7 : gb343 ≠ gb315))
                have n12_ := Aside0.mk ((z14_13 : gb316 ≠ gb343))
                have n13_ := Aside0.mk ((z14_14 : gb343 ≠ gb316))
                clear HO321
                clear HO324
                clear HO327
                clear HO335
                clear BK315
                clear BK316
                clear HB
                have HO321 := n0_
                have HO324 := n1_
                have HO327 := n2_
                have HO335 := n3_
                have BK315 := n4_
                have BK316 := n5_
                have HB := n6_
                have BK343 := n7_
                have GW343 := n8_
                have GE343 := n9_
                have NB315_343 := n10_
                have NB343_315 := n11_
                have NB316_343 := n12_
                have NB343_316 := n13_
                clear n0_ n1_ n2_ n3_ n4_ n5_ n6_ n7_ n8_ n9_ n10_ n11_ n12_ n13_
                clear hb hbox hg
                refine hK.out _ _ ⟨(blk_cell BK315.out 0).trans rfl, (blk_cell BK315.out 1).trans rfl, (blk_cell BK315.out 2).trans rfl, (blk_cell BK315.out 3).trans rfl, (blk_cell BK316.out 0).trans rfl, (blk_cell BK316.out 1).trans rfl, (blk_cell BK316.out 2).trans rfl, (blk_cell BK316.out 3).trans rfl, (blk_cell BK316.out 4).trans rfl⟩ (fun hHeld => ?_)
                clear hK K
                refine norm_ (a' := ?_) ?_ ?_
                rotate_left
                · show Act.put _ (some 16) _ = _
                  simp only [Act.put, List.setIfInBounds_toArray, List.set_cons_zero, List.set_cons_succ, i64_w, i32_w]
                  rfl
                exact norm_ z14_5 (hJ1_4_6_14 (.slice Ao37 t319.length co37, .slice Ao38 t322.length co38, .slice Ao39 t325.length co39, .slice Ao40 t333.length co40, gb343) _ ⟨hHeld, (pR14_ HO321.out), (pR14_ HO324.out), (pR14_ HO327.out), (pR14_ HO335.out), (pB14_ BK315.out), (pB14_ BK316.out), (pB14_ BK343.out), GW343.out, GE343.out, NB315_343.out, NB343_315.out, NB316_343.out, NB343_316.out, z14_0⟩)
          · skip
            rintro ⟨v320, v323, v326, v334, gb343⟩ w37 ⟨hS_, h0_, h1_, h2_, h3_, h4_, h5_, h6_, h7_, h8_, h9_, h10_, h11_, h12_, h13_⟩
            have n0_ : Aside0 (Kd.R (Kd.int .i64) 3 w37 w.heap.size (fun k_ => some k_ ≠ (v323 : Value).ownBlock ∧ some k_ ≠ (v326 : Value).ownBlock ∧ some k_ ≠ (v334 : Value).ownBlock) v320 t319) := ⟨h0_⟩
            have n1_ : Aside0 (Kd.R (Kd.int .i64) 3 w37 w.heap.size (fun k_ => some k_ ≠ (v320 : Value).ownBlock ∧ some k_ ≠ (v326 : Value).ownBlock ∧ some k_ ≠ (v334 : Value).ownBlock) v323 t322) := ⟨h1_⟩
            have n2_ : Aside0 (Kd.R (Kd.int .i64) 3 w37 w.heap.size (fun k_ => some k_ ≠ (v320 : Value).ownBlock ∧ some k_ ≠ (v323 : Value).ownBlock ∧ some k_ ≠ (v334 : Value).ownBlock) v326 t325) := ⟨h2_⟩
            have n3_ : Aside0 (Kd.R (Kd.int .i64) 3 w37 w.heap.size (fun k_ => some k_ ≠ (v320 : Value).ownBlock ∧ some k_ ≠ (v323 : Value).ownBlock ∧ some k_ ≠ (v326 : Value).ownBlock) v334 t333) := ⟨h3_⟩
            have n4_ : Aside0 (w37.heap[gb315]? = some (.cells #[.int .i64 a0_0, .slice A0_1 l0_1.length c0_1, .slice A0_2 l0_2.length c0_2, .slice A0_3 l0_3.length c0_3] 30 (0, 0))) := ⟨h4_⟩
            have n5_ : Aside0 (w37.heap[gb316]? = some (.cells #[.int .i64 a2_0, .int .i64 a2_1, .int .i64 a2_2, .int .i64 a2_3, .int .i64 a2_4] 50 (0, 0))) := ⟨h5_⟩
            have n6_ : Aside0 (w37.heap[gb343]? = some (.cells #[.int .i64 0, .int .i64 0, .int .i64 0, .int .i64 0, .int .i64 0, .int .i64 0] 83 (0, 0))) := ⟨h6_⟩
            have n7_ : Aside0 (w.heap.size ≤ gb343) := ⟨h7_⟩
            have n8_ : Aside0 (w.heap.size ≤ gb343) := ⟨h8_⟩
            have n9_ : Aside0 (gb315 ≠ gb343) := ⟨h9_⟩
            have n10_ : Aside0 (gb343 ≠ gb315) := ⟨h10_⟩
            have n11_ : Aside0 (gb316 ≠ gb343) := ⟨h11_⟩
            have n12_ : Aside0 (gb343 ≠ gb316) := ⟨h12_⟩
            have n13_ : Aside0 (Below w.heap.size w w37) := ⟨h13_⟩
            clear BK315
            clear BK316
            clear HB
            clear h0_ h1_ h2_ h3_ h4_ h5_ h6_ h7_ h8_ h9_ h10_ h11_ h12_ h13_
            have HO321 := n0_
            have HO324 := n1_
            have HO327 := n2_
            have HO335 := n3_
            have BK315 := n4_
            have BK316 := n5_
            have BK343 := n6_
            have GW343 := n7_
            have GE343 := n8_
            have NB315_343 := n9_
            have NB343_315 := n10_
            have NB316_343 := n11_
            have NB343_316 := n12_
            have HB := n13_
            clear n0_ n1_ n2_ n3_ n4_ n5_ n6_ n7_ n8_ n9_ n10_ n11_ n12_ n13_
            have hHeld : w37.cell? ⟨gb315, 0, none⟩ = some (.int .i64 a0_0) ∧ w37.cell? ⟨gb315, 1, none⟩ = some (.slice A0_1 l0_1.length c0_1) ∧ w37.cell? ⟨gb315, 2, none⟩ = some (.slice A0_2 l0_2.length c0_2) ∧ w37.cell? ⟨gb315, 3, none⟩ = some (.slice A0_3 l0_3.length c0_3) ∧ w37.cell? ⟨gb316, 0, none⟩ = some (.int .i64 a2_0) ∧ w37.cell? ⟨gb316, 1, none⟩ = some (.int .i64 a2_1) ∧ w37.cell? ⟨gb316, 2, none⟩ = some (.int .i64 a2_2) ∧ w37.cell? ⟨gb316, 3, none⟩ = some (.int .i64 a2_3) ∧ w37.cell? ⟨gb316, 4, none⟩ = some (.int .i64 a2_4) := hS_
            obtain ⟨Ao38, co38, eo38⟩ := Kd.R_slice HO321.out
            (first | subst eo38 | (injection eo38 with f1_ f2_ f3_; have f4_ := f1_.symm; have f5_ := f3_.symm; clear f1_ f2_ f3_; subst f4_; subst f5_))
            obtain ⟨Ao39, co39, eo39⟩ := Kd.R_slice HO324.out
            (first | subst eo39 | (injection eo39 with f1_ f2_ f3_; have f4_ := f1_.symm; have f5_ := f3_.symm; clear f1_ f2_ f3_; subst f4_; subst f5_))
            obtain ⟨Ao40, co40, eo40⟩ := Kd.R_slice HO327.out
            (first | subst eo40 | (injection eo40 with f1_ f2_ f3_; have f4_ := f1_.symm; have f5_ := f3_.symm; clear f1_ f2_ f3_; subst f4_; subst f5_))
            obtain ⟨Ao41, co41, eo41⟩ := Kd.R_slice HO335.out
            (first | subst eo41 | (injection eo41 with f1_ f2_ f3_; have f4_ := f1_.symm; have f5_ := f3_.symm; clear f1_ f2_ f3_; subst f4_; subst f5_))
            refine norm_ (a' := ?_) ?_ ?_
            rotate_left
            · simp only [putAll, Act.put, List.setIfInBounds_toArray, List.set_cons_zero, List.set_cons_succ]
              rfl
            refine one_ (i := 10) (N := some 41) #[true, true, true, true, true, true, true, true, true, true, true, false, false, false, true, false, false] rfl rfl (one_of HT_.out z14_38) (by decide) (fun K hK => ?_)
            refine goes_ Try.func64 z14_38 rfl #[.agg #[.int .i64 t318, .slice Ao38 t319.length co38, .slice Ao39 t322.length co39, .slice Ao40 t325.length co40], .int .i64 a1, .agg #[.int .i64 t328, .int .i64 t329, .int .i64 t330, .int .i64 t331, .int .i64 t332], .slice Ao41 t333.length co41, .int .i64 a4, .int .i64 a5, .int .i64 a6] (by rfl) rfl rfl z14_4 ?_
            with_reducible refine (spec_HealthFact.calls k t318 _ _ t319 _ _ t322 _ _ t325 a1 t328 t329 t330 t331 t332 _ _ t333 a4 a5 a6 t336 t337 t338 t339 t340 t341 t342 _ ?side1 ?side2 ?side3 ?side4 ?side5 ?side6 ?side7 ?side8 A21.out).mono ?_
            (case side1 => repeat (first | exact (Kd.R_reads' HO321.out).2.2 | (with_reducible refine Kd.C_alloc ?_ _) | (with_reducible refine Kd.C_drewN ?_ _) | (with_reducible refine Kd.C_drew ?_)))
            (case side2 => exact (Kd.R_reads' HO321.out).2.1)
            (case side3 => repeat (first | exact (Kd.R_reads' HO324.out).2.2 | (with_reducible refine Kd.C_alloc ?_ _) | (with_reducible refine Kd.C_drewN ?_ _) | (with_reducible refine Kd.C_drew ?_)))
            (case side4 => exact (Kd.R_reads' HO324.out).2.1)
            (case side5 => repeat (first | exact (Kd.R_reads' HO327.out).2.2 | (with_reducible refine Kd.C_alloc ?_ _) | (with_reducible refine Kd.C_drewN ?_ _) | (with_reducible refine Kd.C_drew ?_)))
            (case side6 => exact (Kd.R_reads' HO327.out).2.1)
            (case side7 => repeat (first | exact (Kd.R_reads' HO335.out).2.2 | (with_reducible refine Kd.C_alloc ?_ _) | (with_reducible refine Kd.C_drewN ?_ _) | (with_reducible refine Kd.C_drew ?_)))
            (case side8 => exact (Kd.R_reads' HO335.out).2.1)
            rintro e w42 ⟨rfl, hb⟩
            refine ⟨_, rfl, ?_⟩
            have n0_ := Aside0.mk (Kd.R_below (pR14_ HO321.out) hb)
            have n1_ := Aside0.mk (Kd.R_below (pR14_ HO324.out) hb)
            have n2_ := Aside0.mk (Kd.R_below (pR14_ HO327.out) hb)
            have n3_ := Aside0.mk (Kd.R_below (pR14_ HO335.out) hb)
            have n4_ := Aside0.mk (blk_below (g := gb315) (o := .cells #[.int .i64 a0_0, .slice A0_1 l0_1.length c0_1, .slice A0_2 l0_2.length c0_2, .slice A0_3 l0_3.length c0_3] 30 (0, 0)) (pB14_ BK315.out) hb)
            have n5_ := Aside0.mk (blk_below (g := gb316) (o := .cells #[.int .i64 a2_0, .int .i64 a2_1, .int .i64 a2_2, .int .i64 a2_3, .int .i64 a2_4] 50 (0, 0)) (pB14_ BK316.out) hb)
            have n6_ := Aside0.mk (blk_below (g := gb343) (o := .cells #[.int .i64 0, .int .i64 0, .int .i64 0, .int .i64 0, .int .i64 0, .int .i64 0] 83 (0, 0)) (pB14_ BK343.out) hb)
            have n7_ := Aside0.mk (below_step z14_0 hb)
            clear HO321
            clear HO324
            clear HO327
            clear HO335
            clear BK315
            clear BK316
            clear BK343
            clear HB
            have HO321 := n0_
            have HO324 := n1_
            have HO327 := n2_
            have HO335 := n3_
            have BK315 := n4_
            have BK316 := n5_
            have BK343 := n6_
            have HB := n7_
            clear n0_ n1_ n2_ n3_ n4_ n5_ n6_ n7_
            (try clear hb)
            (try clear hb2)
            (try clear hk)
            (try clear hi)
            refine hK.out _ _ ⟨(blk_cell BK315.out 0).trans rfl, (blk_cell BK315.out 1).trans rfl, (blk_cell BK315.out 2).trans rfl, (blk_cell BK315.out 3).trans rfl, (blk_cell BK316.out 0).trans rfl, (blk_cell BK316.out 1).trans rfl, (blk_cell BK316.out 2).trans rfl, (blk_cell BK316.out 3).trans rfl, (blk_cell BK316.out 4).trans rfl⟩ (fun hHeld => ?_)
            clear hK K
            refine norm_ (a' := ?_) ?_ ?_
            rotate_left
            · show Act.put _ (some 41) _ = _
              simp only [Act.put, List.setIfInBounds_toArray, List.set_cons_zero, List.set_cons_succ, i64_w, i32_w]
              rfl
            refine pure_ (i := 11) (N := some 30) (v := ?_) (a' := ?_) #[true, true, true, true, true, true, true, true, true, true, true, true, false, false, true, false, false] rfl rfl (any_of HT_.out z14_38) (fun _ _ _ h => h) (Or.inl ⟨by rfl, ?_⟩) ?_ ?_
            rotate_left
            · intro w'
              go_simp
              with_reducible rfl
            rotate_left
            · simp only [Act.put, List.setIfInBounds_toArray, List.set_cons_zero, List.set_cons_succ, i64_w, i32_w]
              rfl
            refine pure_ (i := 12) (N := some 42) (v := ?_) (a' := ?_) #[true, true, true, true, true, true, true, true, true, true, true, true, true, false, true, false, false] rfl rfl (any_of HT_.out z14_38) (fun _ _ _ h => h) (Or.inl ⟨by rfl, ?_⟩) ?_ ?_
            rotate_left
            · intro w'
              go_simp
              with_reducible rfl
            rotate_left
            · simp only [Act.put, List.setIfInBounds_toArray, List.set_cons_zero, List.set_cons_succ, i64_w, i32_w]
              rfl
            refine pure_ (i := 13) (N := some 43) (v := ?_) (a' := ?_) #[true, true, true, true, true, true, true, true, true, true, true, true, true, true, true, false, false] rfl rfl (any_of HT_.out z14_38) (fun _ _ _ h => h) (Or.inl ⟨by rfl, ?_⟩) ?_ ?_
            rotate_left
            · intro w'
              go_simp
              with_reducible rfl
            rotate_left
            · simp only [Act.put, List.setIfInBounds_toArray, List.set_cons_zero, List.set_cons_succ, i64_w, i32_w]
              rfl
            exact norm_ z14_5 (hJ1_4_6_10_14 (.slice Ao38 t319.length co38, .slice Ao39 t322.length co39, .slice Ao40 t325.length co40, .slice Ao41 t333.length co41, gb343) _ ⟨hHeld, (pR14_ HO321.out), (pR14_ HO324.out), (pR14_ HO327.out), (pR14_ HO335.out), (pB14_ BK315.out), (pB14_ BK316.out), (pB14_ BK343.out), GW343.out, GE343.out, NB315_343.out, NB343_315.out, NB316_343.out, NB343_316.out, z14_0⟩)
        · skip
          rintro ⟨v320, v323, v326, v334⟩ w41 ⟨hS_, h0_, h1_, h2_, h3_, h4_, h5_, h6_⟩
          have n0_ : Aside0 (Kd.R (Kd.int .i64) 3 w41 w.heap.size (fun k_ => some k_ ≠ (v323 : Value).ownBlock ∧ some k_ ≠ (v326 : Value).ownBlock ∧ some k_ ≠ (v334 : Value).ownBlock) v320 t319) := ⟨h0_⟩
          have n1_ : Aside0 (Kd.R (Kd.int .i64) 3 w41 w.heap.size (fun k_ => some k_ ≠ (v320 : Value).ownBlock ∧ some k_ ≠ (v326 : Value).ownBlock ∧ some k_ ≠ (v334 : Value).ownBlock) v323 t322) := ⟨h1_⟩
          have n2_ : Aside0 (Kd.R (Kd.int .i64) 3 w41 w.heap.size (fun k_ => some k_ ≠ (v320 : Value).ownBlock ∧ some k_ ≠ (v323 : Value).ownBlock ∧ some k_ ≠ (v334 : Value).ownBlock) v326 t325) := ⟨h2_⟩
          have n3_ : Aside0 (Kd.R (Kd.int .i64) 3 w41 w.heap.size (fun k_ => some k_ ≠ (v320 : Value).ownBlock ∧ some k_ ≠ (v323 : Value).ownBlock ∧ some k_ ≠ (v326 : Value).ownBlock) v334 t333) := ⟨h3_⟩
          have n4_ : Aside0 (w41.heap[gb315]? = some (.cells #[.int .i64 a0_0, .slice A0_1 l0_1.length c0_1, .slice A0_2 l0_2.length c0_2, .slice A0_3 l0_3.length c0_3] 30 (0, 0))) := ⟨h4_⟩
          have n5_ : Aside0 (w41.heap[gb316]? = some (.cells #[.int .i64 a2_0, .int .i64 a2_1, .int .i64 a2_2, .int .i64 a2_3, .int .i64 a2_4] 50 (0, 0))) := ⟨h5_⟩
          have n6_ : Aside0 (Below w.heap.size w w41) := ⟨h6_⟩
          clear BK315
          clear BK316
          clear HB
          clear h0_ h1_ h2_ h3_ h4_ h5_ h6_
          have HO321 := n0_
          have HO324 := n1_
          have HO327 := n2_
          have HO335 := n3_
          have BK315 := n4_
          have BK316 := n5_
          have HB := n6_
          clear n0_ n1_ n2_ n3_ n4_ n5_ n6_
          have hHeld : w41.cell? ⟨gb315, 0, none⟩ = some (.int .i64 a0_0) ∧ w41.cell? ⟨gb315, 1, none⟩ = some (.slice A0_1 l0_1.length c0_1) ∧ w41.cell? ⟨gb315, 2, none⟩ = some (.slice A0_2 l0_2.length c0_2) ∧ w41.cell? ⟨gb315, 3, none⟩ = some (.slice A0_3 l0_3.length c0_3) ∧ w41.cell? ⟨gb316, 0, none⟩ = some (.int .i64 a2_0) ∧ w41.cell? ⟨gb316, 1, none⟩ = some (.int .i64 a2_1) ∧ w41.cell? ⟨gb316, 2, none⟩ = some (.int .i64 a2_2) ∧ w41.cell? ⟨gb316, 3, none⟩ = some (.int .i64 a2_3) ∧ w41.cell? ⟨gb316, 4, none⟩ = some (.int .i64 a2_4) := hS_
          refine norm_ (a' := ?_) ?_ ?_
          rotate_left
          · simp only [putAll, Act.put, List.setIfInBounds_toArray, List.set_cons_zero, List.set_cons_succ]
            rfl
          refine one_ (i := 14) (N := some 16) #[true, true, true, true, true, true, true, true, true, true, true, true, true, true, true, false, false] rfl rfl (one_of HT_.out z14_38) (by decide) (fun K hK => ?_)
          refine box_step ?hg (N := 16) ?hd (cs := #[.int .i64 0, .int .i64 0, .int .i64 0, .int .i64 0, .int .i64 0, .int .i64 0]) (t := 83) ?hr ?_; (case hd => rfl); (case hg => rfl); (case hr => first | (go_simp; done) | (go_simp; rfl))
          intro gb343 hg w42 hbox hb
          have n0_ := Aside0.mk (Kd.R_below (pR14_ HO321.out) hb)
          have n1_ := Aside0.mk (Kd.R_below (pR14_ HO324.out) hb)
          have n2_ := Aside0.mk (Kd.R_below (pR14_ HO327.out) hb)
          have n3_ := Aside0.mk (Kd.R_below (pR14_ HO335.out) hb)
          have n4_ := Aside0.mk (blk_below (g := gb315) (o := .cells #[.int .i64 a0_0, .slice A0_1 l0_1.length c0_1, .slice A0_2 l0_2.length c0_2, .slice A0_3 l0_3.length c0_3] 30 (0, 0)) (pB14_ BK315.out) hb)
          have n5_ := Aside0.mk (blk_below (g := gb316) (o := .cells #[.int .i64 a2_0, .int .i64 a2_1, .int .i64 a2_2, .int .i64 a2_3, .int .i64 a2_4] 50 (0, 0)) (pB14_ BK316.out) hb)
          have n6_ := Aside0.mk (below_step z14_1 hb)
          have n7_ := Aside0.mk (hbox)
          have n8_ := Aside0.mk ((z14_49 : w.heap.size ≤ gb343))
          have n9_ := Aside0.mk ((z14_49 : w.heap.size ≤ gb343))
          have n10_ := Aside0.mk ((z14_6 : gb315 ≠ gb343))
          have n11_ := Aside0.mk ((z14_7 : gb343 ≠ gb315))
          have n12_ := Aside0.mk ((z14_13 : gb316 ≠ gb343))
          have n13_ := Aside0.mk ((z14_14 : gb343 ≠ gb316))
          clear HO321
          clear HO324
          clear HO327
          clear HO335
          clear BK315
          clear BK316
          clear HB
          have HO321 := n0_
          have HO324 := n1_
          have HO327 := n2_
          have HO335 := n3_
          have BK315 := n4_
          have BK316 := n5_
          have HB := n6_
          have BK343 := n7_
          have GW343 := n8_
          have GE343 := n9_
          have NB315_343 := n10_
          have NB343_315 := n11_
          have NB316_343 := n12_
          have NB343_316 := n13_
          clear n0_ n1_ n2_ n3_ n4_ n5_ n6_ n7_ n8_ n9_ n10_ n11_ n12_ n13_
          clear hb hbox hg
          refine hK.out _ _ ⟨(blk_cell BK315.out 0).trans rfl, (blk_cell BK315.out 1).trans rfl, (blk_cell BK315.out 2).trans rfl, (blk_cell BK315.out 3).trans rfl, (blk_cell BK316.out 0).trans rfl, (blk_cell BK316.out 1).trans rfl, (blk_cell BK316.out 2).trans rfl, (blk_cell BK316.out 3).trans rfl, (blk_cell BK316.out 4).trans rfl⟩ (fun hHeld => ?_)
          clear hK K
          refine norm_ (a' := ?_) ?_ ?_
          rotate_left
          · show Act.put _ (some 16) _ = _
            simp only [Act.put, List.setIfInBounds_toArray, List.set_cons_zero, List.set_cons_succ, i64_w, i32_w]
            rfl
          exact norm_ z14_5 (hJ1_4_6_10_14 (v320, v323, v326, v334, gb343) _ ⟨hHeld, (pR14_ HO321.out), (pR14_ HO324.out), (pR14_ HO327.out), (pR14_ HO335.out), (pB14_ BK315.out), (pB14_ BK316.out), (pB14_ BK343.out), GW343.out, GE343.out, NB315_343.out, NB343_315.out, NB316_343.out, NB343_316.out, z14_0⟩)
      rintro ⟨v320, v323, v326, v334, gb343⟩ w42 ⟨hS_, h0_, h1_, h2_, h3_, h4_, h5_, h6_, h7_, h8_, h9_, h10_, h11_, h12_, h13_⟩
      have n0_ : Aside0 (Kd.R (Kd.int .i64) 3 w42 w.heap.size (fun k_ => some k_ ≠ (v323 : Value).ownBlock ∧ some k_ ≠ (v326 : Value).ownBlock ∧ some k_ ≠ (v334 : Value).ownBlock) v320 t319) := ⟨h0_⟩
      have n1_ : Aside0 (Kd.R (Kd.int .i64) 3 w42 w.heap.size (fun k_ => some k_ ≠ (v320 : Value).ownBlock ∧ some k_ ≠ (v326 : Value).ownBlock ∧ some k_ ≠ (v334 : Value).ownBlock) v323 t322) := ⟨h1_⟩
      have n2_ : Aside0 (Kd.R (Kd.int .i64) 3 w42 w.heap.size (fun k_ => some k_ ≠ (v320 : Value).ownBlock ∧ some k_ ≠ (v323 : Value).ownBlock ∧ some k_ ≠ (v334 : Value).ownBlock) v326 t325) := ⟨h2_⟩
      have n3_ : Aside0 (Kd.R (Kd.int .i64) 3 w42 w.heap.size (fun k_ => some k_ ≠ (v320 : Value).ownBlock ∧ some k_ ≠ (v323 : Value).ownBlock ∧ some k_ ≠ (v326 : Value).ownBlock) v334 t333) := ⟨h3_⟩
      have n4_ : Aside0 (w42.heap[gb315]? = some (.cells #[.int .i64 a0_0, .slice A0_1 l0_1.length c0_1, .slice A0_2 l0_2.length c0_2, .slice A0_3 l0_3.length c0_3] 30 (0, 0))) := ⟨h4_⟩
      have n5_ : Aside0 (w42.heap[gb316]? = some (.cells #[.int .i64 a2_0, .int .i64 a2_1, .int .i64 a2_2, .int .i64 a2_3, .int .i64 a2_4] 50 (0, 0))) := ⟨h5_⟩
      have n6_ : Aside0 (w42.heap[gb343]? = some (.cells #[.int .i64 0, .int .i64 0, .int .i64 0, .int .i64 0, .int .i64 0, .int .i64 0] 83 (0, 0))) := ⟨h6_⟩
      have n7_ : Aside0 (w.heap.size ≤ gb343) := ⟨h7_⟩
      have n8_ : Aside0 (w.heap.size ≤ gb343) := ⟨h8_⟩
      have n9_ : Aside0 (gb315 ≠ gb343) := ⟨h9_⟩
      have n10_ : Aside0 (gb343 ≠ gb315) := ⟨h10_⟩
      have n11_ : Aside0 (gb316 ≠ gb343) := ⟨h11_⟩
      have n12_ : Aside0 (gb343 ≠ gb316) := ⟨h12_⟩
      have n13_ : Aside0 (Below w.heap.size w w42) := ⟨h13_⟩
      clear BK315
      clear BK316
      clear HB
      clear h0_ h1_ h2_ h3_ h4_ h5_ h6_ h7_ h8_ h9_ h10_ h11_ h12_ h13_
      have HO321 := n0_
      have HO324 := n1_
      have HO327 := n2_
      have HO335 := n3_
      have BK315 := n4_
      have BK316 := n5_
      have BK343 := n6_
      have GW343 := n7_
      have GE343 := n8_
      have NB315_343 := n9_
      have NB343_315 := n10_
      have NB316_343 := n11_
      have NB343_316 := n12_
      have HB := n13_
      clear n0_ n1_ n2_ n3_ n4_ n5_ n6_ n7_ n8_ n9_ n10_ n11_ n12_ n13_
      have hHeld : w42.cell? ⟨gb315, 0, none⟩ = some (.int .i64 a0_0) ∧ w42.cell? ⟨gb315, 1, none⟩ = some (.slice A0_1 l0_1.length c0_1) ∧ w42.cell? ⟨gb315, 2, none⟩ = some (.slice A0_2 l0_2.length c0_2) ∧ w42.cell? ⟨gb315, 3, none⟩ = some (.slice A0_3 l0_3.length c0_3) ∧ w42.cell? ⟨gb316, 0, none⟩ = some (.int .i64 a2_0) ∧ w42.cell? ⟨gb316, 1, none⟩ = some (.int .i64 a2_1) ∧ w42.cell? ⟨gb316, 2, none⟩ = some (.int .i64 a2_2) ∧ w42.cell? ⟨gb316, 3, none⟩ = some (.int .i64 a2_3) ∧ w42.cell? ⟨gb316, 4, none⟩ = some (.int .i64 a2_4) := hS_
      refine norm_ (a' := ?_) ?_ ?_
      rotate_left
      · simp only [putAll, Act.put, List.setIfInBounds_toArray, List.set_cons_zero, List.set_cons_succ]
        rfl
      refine one_ (i := 15) (N := none) #[true, true, true, true, true, true, true, true, true, true, true, true, true, true, true, true, false] rfl rfl (one_of HT_.out z14_38) (by decide) (fun K hK => ?_)
      have hs43 : w42.cell? ⟨gb343, 0, none⟩ = some (.int .i64 0) := (blk_cell BK343.out 0).trans rfl
      have hfs43 := blk_frozen BK343.out 0
      have hns43_0 := NB315_343.out
      have hns43_1 := NB316_343.out
      have hms43_0 := NB343_315.out
      have hms43_1 := NB343_316.out
      have hs44 : w42.cell? ⟨gb343, 1, none⟩ = some (.int .i64 0) := (blk_cell BK343.out 1).trans rfl
      have hfs44 := blk_frozen BK343.out 1
      have hns44_0 := NB315_343.out
      have hns44_1 := NB316_343.out
      have hms44_0 := NB343_315.out
      have hms44_1 := NB343_316.out
      have hs45 : w42.cell? ⟨gb343, 2, none⟩ = some (.int .i64 0) := (blk_cell BK343.out 2).trans rfl
      have hfs45 := blk_frozen BK343.out 2
      have hns45_0 := NB315_343.out
      have hns45_1 := NB316_343.out
      have hms45_0 := NB343_315.out
      have hms45_1 := NB343_316.out
      have hs46 : w42.cell? ⟨gb343, 3, none⟩ = some (.int .i64 0) := (blk_cell BK343.out 3).trans rfl
      have hfs46 := blk_frozen BK343.out 3
      have hns46_0 := NB315_343.out
      have hns46_1 := NB316_343.out
      have hms46_0 := NB343_315.out
      have hms46_1 := NB343_316.out
      have hs47 : w42.cell? ⟨gb343, 4, none⟩ = some (.int .i64 0) := (blk_cell BK343.out 4).trans rfl
      have hfs47 := blk_frozen BK343.out 4
      have hns47_0 := NB315_343.out
      have hns47_1 := NB316_343.out
      have hms47_0 := NB343_315.out
      have hms47_1 := NB343_316.out
      have hs48 : w42.cell? ⟨gb343, 5, none⟩ = some (.int .i64 0) := (blk_cell BK343.out 5).trans rfl
      have hfs48 := blk_frozen BK343.out 5
      have hns48_0 := NB315_343.out
      have hns48_1 := NB316_343.out
      have hms48_0 := NB343_315.out
      have hms48_1 := NB343_316.out
      refine skip_ (w1 := ?_) (by rfl) rfl ?_ ?_
      rotate_left
      · go_simp
        rfl
      refine hK.out _ _ ⟨((cell_far (p := ⟨gb343, _, none⟩) NB315_343.out _).trans (((cell_far (p := ⟨gb343, _, none⟩) NB315_343.out _).trans (((cell_far (p := ⟨gb343, _, none⟩) NB315_343.out _).trans (((cell_far (p := ⟨gb343, _, none⟩) NB315_343.out _).trans (((cell_far (p := ⟨gb343, _, none⟩) NB315_343.out _).trans (((cell_far (p := ⟨gb343, _, none⟩) NB315_343.out _).trans (hHeld.1)))))))))))), ((cell_far (p := ⟨gb343, _, none⟩) NB315_343.out _).trans (((cell_far (p := ⟨gb343, _, none⟩) NB315_343.out _).trans (((cell_far (p := ⟨gb343, _, none⟩) NB315_343.out _).trans (((cell_far (p := ⟨gb343, _, none⟩) NB315_343.out _).trans (((cell_far (p := ⟨gb343, _, none⟩) NB315_343.out _).trans (((cell_far (p := ⟨gb343, _, none⟩) NB315_343.out _).trans (hHeld.2.1)))))))))))), ((cell_far (p := ⟨gb343, _, none⟩) NB315_343.out _).trans (((cell_far (p := ⟨gb343, _, none⟩) NB315_343.out _).trans (((cell_far (p := ⟨gb343, _, none⟩) NB315_343.out _).trans (((cell_far (p := ⟨gb343, _, none⟩) NB315_343.out _).trans (((cell_far (p := ⟨gb343, _, none⟩) NB315_343.out _).trans (((cell_far (p := ⟨gb343, _, none⟩) NB315_343.out _).trans (hHeld.2.2.1)))))))))))), ((cell_far (p := ⟨gb343, _, none⟩) NB315_343.out _).trans (((cell_far (p := ⟨gb343, _, none⟩) NB315_343.out _).trans (((cell_far (p := ⟨gb343, _, none⟩) NB315_343.out _).trans (((cell_far (p := ⟨gb343, _, none⟩) NB315_343.out _).trans (((cell_far (p := ⟨gb343, _, none⟩) NB315_343.out _).trans (((cell_far (p := ⟨gb343, _, none⟩) NB315_343.out _).trans (hHeld.2.2.2.1)))))))))))), ((cell_far (p := ⟨gb343, _, none⟩) NB316_343.out _).trans (((cell_far (p := ⟨gb343, _, none⟩) NB316_343.out _).trans (((cell_far (p := ⟨gb343, _, none⟩) NB316_343.out _).trans (((cell_far (p := ⟨gb343, _, none⟩) NB316_343.out _).trans (((cell_far (p := ⟨gb343, _, none⟩) NB316_343.out _).trans (((cell_far (p := ⟨gb343, _, none⟩) NB316_343.out _).trans (hHeld.2.2.2.2.1)))))))))))), ((cell_far (p := ⟨gb343, _, none⟩) NB316_343.out _).trans (((cell_far (p := ⟨gb343, _, none⟩) NB316_343.out _).trans (((cell_far (p := ⟨gb343, _, none⟩) NB316_343.out _).trans (((cell_far (p := ⟨gb343, _, none⟩) NB316_343.out _).trans (((cell_far (p := ⟨gb343, _, none⟩) NB316_343.out _).trans (((cell_far (p := ⟨gb343, _, none⟩) NB316_343.out _).trans (hHeld.2.2.2.2.2.1)))))))))))), ((cell_far (p := ⟨gb343, _, none⟩) NB316_343.out _).trans (((cell_far (p := ⟨gb343, _, none⟩) NB316_343.out _).trans (((cell_far (p := ⟨gb343, _, none⟩) NB316_343.out _).trans (((cell_far (p := ⟨gb343, _, none⟩) NB316_343.out _).trans (((cell_far (p := ⟨gb343, _, none⟩) NB316_343.out _).trans (((cell_far (p := ⟨gb343, _, none⟩) NB316_343.out _).trans (hHeld.2.2.2.2.2.2.1)))))))))))), ((cell_far (p := ⟨gb343, _, none⟩) NB316_343.out _).trans (((cell_far (p := ⟨gb343, _, none⟩) NB316_343.out _).trans (((cell_far (p := ⟨gb343, _, none⟩) NB316_343.out _).trans (((cell_far (p := ⟨gb343, _, none⟩) NB316_343.out _).trans (((cell_far (p := ⟨gb343, _, none⟩) NB316_343.out _).trans (((cell_far (p := ⟨gb343, _, none⟩) NB316_343.out _).trans (hHeld.2.2.2.2.2.2.2.1)))))))))))), ((cell_far (p := ⟨gb343, _, none⟩) NB316_343.out _).trans (((cell_far (p := ⟨gb343, _, none⟩) NB316_343.out _).trans (((cell_far (p := ⟨gb343, _, none⟩) NB316_343.out _).trans (((cell_far (p := ⟨gb343, _, none⟩) NB316_343.out _).trans (((cell_far (p := ⟨gb343, _, none⟩) NB316_343.out _).trans (((cell_far (p := ⟨gb343, _, none⟩) NB316_343.out _).trans (hHeld.2.2.2.2.2.2.2.2))))))))))))⟩ (fun hHeld => ?_)
      clear hK K
      refine pure_ (i := 16) (N := some 17) (v := ?_) (a' := ?_) #[true, true, true, true, true, true, true, true, true, true, true, true, true, true, true, true, true] rfl rfl (any_of HT_.out z14_38) (fun _ _ _ h => h) (Or.inl ⟨by rfl, ?_⟩) ?_ ?_
      rotate_left
      · intro w'
        go_simp
        with_reducible rfl
      rotate_left
      · simp only [Act.put, List.setIfInBounds_toArray, List.set_cons_zero, List.set_cons_succ, i64_w, i32_w]
        rfl
      refine done_ (done_of HT_.out z14_38) ?_
      have hnb49 := NB315_343.out
      have hnc49 := NB343_315.out
      have hcz50_0 : w42.cell? ⟨gb315, 0, none⟩ = some (.int .i64 a0_0) := (blk_cell BK315.out 0).trans rfl
      have hcz50_1 : w42.cell? ⟨gb315, 1, none⟩ = some (.slice A0_1 l0_1.length c0_1) := (blk_cell BK315.out 1).trans rfl
      have hcz50_2 : w42.cell? ⟨gb315, 2, none⟩ = some (.slice A0_2 l0_2.length c0_2) := (blk_cell BK315.out 2).trans rfl
      have hcz50_3 : w42.cell? ⟨gb315, 3, none⟩ = some (.slice A0_3 l0_3.length c0_3) := (blk_cell BK315.out 3).trans rfl
      have hfz50_0 := blk_frozen BK315.out 0
      have hfz50_1 := blk_frozen BK315.out 1
      have hfz50_2 := blk_frozen BK315.out 2
      have hfz50_3 := blk_frozen BK315.out 3
      try go_wp2_with (first | ((with_reducible refine gate_callee (f := 22) rfl ?_); refine goesL_ (some 45) rfl rfl Try.func22 z14_38 rfl #[.agg #[.int .i64 a0_0, .slice A0_1 l0_1.length c0_1, .slice A0_2 l0_2.length c0_2, .slice A0_3 l0_3.length c0_3]] rfl z14_4 ?_; (with_reducible refine (laws_toAllowed.calls k a0_0 _ _ l0_1 _ _ l0_2 _ _ l0_3 t344 t345 t348 t351 _ ?side1 ?side2 ?side3 ?side4 ?side5 ?side6 A22.out).mono ?_); (case side1 => exact Kd.C_below HR0_1.out z14_0); (case side2 => exact HC0_1.out); (case side3 => exact Kd.C_below HR0_2.out z14_0); (case side4 => exact HC0_2.out); (case side5 => exact Kd.C_below HR0_3.out z14_0); (case side6 => exact HC0_3.out); rintro e w51 ⟨v346, v349, v352, rfl, ho0, ho1, ho2, hb⟩; refine ⟨_, rfl, ?_⟩; have n0_ := Aside0.mk (Kd.R_mono (Kd.R_told (Kd.R_told (Kd.R_told (Kd.R_old z14_11 hb) (Kd.R_base ho0)) (Kd.R_base ho1)) (Kd.R_base ho2)) (fun _ h_ => h_.1)); have n1_ := Aside0.mk (Kd.R_mono (Kd.R_told (Kd.R_told (Kd.R_told (Kd.R_old z14_10 hb) (Kd.R_base ho0)) (Kd.R_base ho1)) (Kd.R_base ho2)) (fun _ h_ => h_.1)); have n2_ := Aside0.mk (Kd.R_mono (Kd.R_told (Kd.R_told (Kd.R_told (Kd.R_old z14_9 hb) (Kd.R_base ho0)) (Kd.R_base ho1)) (Kd.R_base ho2)) (fun _ h_ => h_.1)); have n3_ := Aside0.mk (Kd.R_mono (Kd.R_told (Kd.R_told (Kd.R_told (Kd.R_old z14_8 hb) (Kd.R_base ho0)) (Kd.R_base ho1)) (Kd.R_base ho2)) (fun _ h_ => h_.1)); have n4_ := Aside0.mk (Kd.R_lower (Kd.R_new' (Kd.R_new' (Kd.R_new' (Kd.R_new' ho0 (Kd.R_lt z14_11)) (Kd.R_lt z14_10)) (Kd.R_lt z14_9)) (Kd.R_lt z14_8)) (below_size z14_0)); have n5_ := Aside0.mk (Kd.R_lower (Kd.R_new' (Kd.R_new' (Kd.R_new' (Kd.R_new' ho1 (Kd.R_lt z14_11)) (Kd.R_lt z14_10)) (Kd.R_lt z14_9)) (Kd.R_lt z14_8)) (below_size z14_0)); have n6_ := Aside0.mk (Kd.R_lower (Kd.R_new' (Kd.R_new' (Kd.R_new' (Kd.R_new' ho2 (Kd.R_lt z14_11)) (Kd.R_lt z14_10)) (Kd.R_lt z14_9)) (Kd.R_lt z14_8)) (below_size z14_0)); have n7_ := Aside0.mk (blk_below (g := gb315) (o := .cells #[.int .i64 a0_0, .slice A0_1 l0_1.length c0_1, .slice A0_2 l0_2.length c0_2, .slice A0_3 l0_3.length c0_3] 30 (0, 0)) (by (with_reducible repeat (first | refine blk_drewN ?_ _ | refine blk_drew ?_ | refine blk_alloc ?_ _)); refine blk_far ?_ NB315_343.out _; (with_reducible repeat (first | refine blk_drewN ?_ _ | refine blk_drew ?_ | refine blk_alloc ?_ _)); refine blk_far ?_ NB315_343.out _; (with_reducible repeat (first | refine blk_drewN ?_ _ | refine blk_drew ?_ | refine blk_alloc ?_ _)); refine blk_far ?_ NB315_343.out _; (with_reducible repeat (first | refine blk_drewN ?_ _ | refine blk_drew ?_ | refine blk_alloc ?_ _)); refine blk_far ?_ NB315_343.out _; (with_reducible repeat (first | refine blk_drewN ?_ _ | refine blk_drew ?_ | refine blk_alloc ?_ _)); refine blk_far ?_ NB315_343.out _; (with_reducible repeat (first | refine blk_drewN ?_ _ | refine blk_drew ?_ | refine blk_alloc ?_ _)); refine blk_far ?_ NB315_343.out _; (with_reducible repeat (first | refine blk_drewN ?_ _ | refine blk_drew ?_ | refine blk_alloc ?_ _)); exact BK315.out) hb); have n8_ := Aside0.mk (blk_below (g := gb316) (o := .cells #[.int .i64 a2_0, .int .i64 a2_1, .int .i64 a2_2, .int .i64 a2_3, .int .i64 a2_4] 50 (0, 0)) (by (with_reducible repeat (first | refine blk_drewN ?_ _ | refine blk_drew ?_ | refine blk_alloc ?_ _)); refine blk_far ?_ NB316_343.out _; (with_reducible repeat (first | refine blk_drewN ?_ _ | refine blk_drew ?_ | refine blk_alloc ?_ _)); refine blk_far ?_ NB316_343.out _; (with_reducible repeat (first | refine blk_drewN ?_ _ | refine blk_drew ?_ | refine blk_alloc ?_ _)); refine blk_far ?_ NB316_343.out _; (with_reducible repeat (first | refine blk_drewN ?_ _ | refine blk_drew ?_ | refine blk_alloc ?_ _)); refine blk_far ?_ NB316_343.out _; (with_reducible repeat (first | refine blk_drewN ?_ _ | refine blk_drew ?_ | refine blk_alloc ?_ _)); refine blk_far ?_ NB316_343.out _; (with_reducible repeat (first | refine blk_drewN ?_ _ | refine blk_drew ?_ | refine blk_alloc ?_ _)); refine blk_far ?_ NB316_343.out _; (with_reducible repeat (first | refine blk_drewN ?_ _ | refine blk_drew ?_ | refine blk_alloc ?_ _)); exact BK316.out) hb); have n9_ := Aside0.mk (blk_below (g := gb343) (o := .cells #[.int .i64 t336, .int .i64 t337, .int .i64 t338, .int .i64 t339, .int .i64 t340, .int .i64 t341] 83 (0, 0)) (by (with_reducible repeat (first | refine blk_drewN ?_ _ | refine blk_drew ?_ | refine blk_alloc ?_ _)); refine blk_put (cs := #[.int .i64 t336, .int .i64 t337, .int .i64 t338, .int .i64 t339, .int .i64 t340, .int .i64 0]) ?_ 5 _ rfl; (with_reducible repeat (first | refine blk_drewN ?_ _ | refine blk_drew ?_ | refine blk_alloc ?_ _)); refine blk_put (cs := #[.int .i64 t336, .int .i64 t337, .int .i64 t338, .int .i64 t339, .int .i64 0, .int .i64 0]) ?_ 4 _ rfl; (with_reducible repeat (first | refine blk_drewN ?_ _ | refine blk_drew ?_ | refine blk_alloc ?_ _)); refine blk_put (cs := #[.int .i64 t336, .int .i64 t337, .int .i64 t338, .int .i64 0, .int .i64 0, .int .i64 0]) ?_ 3 _ rfl; (with_reducible repeat (first | refine blk_drewN ?_ _ | refine blk_drew ?_ | refine blk_alloc ?_ _)); refine blk_put (cs := #[.int .i64 t336, .int .i64 t337, .int .i64 0, .int .i64 0, .int .i64 0, .int .i64 0]) ?_ 2 _ rfl; (with_reducible repeat (first | refine blk_drewN ?_ _ | refine blk_drew ?_ | refine blk_alloc ?_ _)); refine blk_put (cs := #[.int .i64 t336, .int .i64 0, .int .i64 0, .int .i64 0, .int .i64 0, .int .i64 0]) ?_ 1 _ rfl; (with_reducible repeat (first | refine blk_drewN ?_ _ | refine blk_drew ?_ | refine blk_alloc ?_ _)); refine blk_put (cs := #[.int .i64 0, .int .i64 0, .int .i64 0, .int .i64 0, .int .i64 0, .int .i64 0]) ?_ 0 _ rfl; (with_reducible repeat (first | refine blk_drewN ?_ _ | refine blk_drew ?_ | refine blk_alloc ?_ _)); exact BK343.out) hb); have n10_ := Aside0.mk (below_step z14_0 hb); clear HO321; clear HO324; clear HO327; clear HO335; clear BK315; clear BK316; clear BK343; clear HB; have HO321 := n0_; have HO324 := n1_; have HO327 := n2_; have HO335 := n3_; have HO347 := n4_; have HO350 := n5_; have HO353 := n6_; have BK315 := n7_; have BK316 := n8_; have BK343 := n9_; have HB := n10_; clear n0_ n1_ n2_ n3_ n4_ n5_ n6_ n7_ n8_ n9_ n10_; (try clear hb); (try clear hb2); (try clear hk); (try clear hi); (try clear ho0); (try clear ho1); (try clear ho2)) | ((with_reducible refine gate_dst (N := 18) rfl ?_); refine box_event ?hg (N := 18) ?hd (cs := #[.int .i64 0, .slice none 0 0, .slice none 0 0, .slice none 0 0]) (t := 33) ?hr ?_; (case hd => rfl); (case hg => rfl); (case hr => first | (go_simp; done) | (go_simp; rfl)); intro gb354 hg w52 hbox hb; have n0_ := Aside0.mk (Kd.R_below (pR14_ HO321.out) hb); have n1_ := Aside0.mk (Kd.R_below (pR14_ HO324.out) hb); have n2_ := Aside0.mk (Kd.R_below (pR14_ HO327.out) hb); have n3_ := Aside0.mk (Kd.R_below (pR14_ HO335.out) hb); have n4_ := Aside0.mk (Kd.R_below (pR14_ HO347.out) hb); have n5_ := Aside0.mk (Kd.R_below (pR14_ HO350.out) hb); have n6_ := Aside0.mk (Kd.R_below (pR14_ HO353.out) hb); have n7_ := Aside0.mk (blk_below (g := gb315) (o := .cells #[.int .i64 a0_0, .slice A0_1 l0_1.length c0_1, .slice A0_2 l0_2.length c0_2, .slice A0_3 l0_3.length c0_3] 30 (0, 0)) (pB14_ BK315.out) hb); have n8_ := Aside0.mk (blk_below (g := gb316) (o := .cells #[.int .i64 a2_0, .int .i64 a2_1, .int .i64 a2_2, .int .i64 a2_3, .int .i64 a2_4] 50 (0, 0)) (pB14_ BK316.out) hb); have n9_ := Aside0.mk (blk_below (g := gb343) (o := .cells #[.int .i64 t336, .int .i64 t337, .int .i64 t338, .int .i64 t339, .int .i64 t340, .int .i64 t341] 83 (0, 0)) (pB14_ BK343.out) hb); have n10_ := Aside0.mk (below_step z14_0 hb); have n11_ := Aside0.mk (hbox); have n12_ := Aside0.mk ((by rw [hg]; exact (below_size z14_0) : w.heap.size ≤ gb354)); have n13_ := Aside0.mk ((by rw [hg]; exact (below_size z14_0) : w.heap.size ≤ gb354)); have n14_ := Aside0.mk ((z14_6 : gb315 ≠ gb354)); have n15_ := Aside0.mk ((z14_7 : gb354 ≠ gb315)); have n16_ := Aside0.mk ((z14_13 : gb316 ≠ gb354)); have n17_ := Aside0.mk ((z14_14 : gb354 ≠ gb316)); have n18_ := Aside0.mk ((z14_29 : gb343 ≠ gb354)); have n19_ := Aside0.mk ((z14_30 : gb354 ≠ gb343)); clear HO321; clear HO324; clear HO327; clear HO335; clear HO347; clear HO350; clear HO353; clear BK315; clear BK316; clear BK343; clear HB; have HO321 := n0_; have HO324 := n1_; have HO327 := n2_; have HO335 := n3_; have HO347 := n4_; have HO350 := n5_; have HO353 := n6_; have BK315 := n7_; have BK316 := n8_; have BK343 := n9_; have HB := n10_; have BK354 := n11_; have GW354 := n12_; have GE354 := n13_; have NB315_354 := n14_; have NB354_315 := n15_; have NB316_354 := n16_; have NB354_316 := n17_; have NB343_354 := n18_; have NB354_343 := n19_; clear n0_ n1_ n2_ n3_ n4_ n5_ n6_ n7_ n8_ n9_ n10_ n11_ n12_ n13_ n14_ n15_ n16_ n17_ n18_ n19_; clear hb hbox hg; have hnb53 := NB354_315.out; have hnc53 := NB315_354.out; have hnb54 := NB354_316.out; have hnc54 := NB316_354.out; have hnb55 := NB354_343.out; have hnc55 := NB343_354.out; have hcz56_0 : w52.cell? ⟨gb354, 0, none⟩ = some (.int .i64 0) := (blk_cell BK354.out 0).trans rfl; have hcz56_1 : w52.cell? ⟨gb354, 1, none⟩ = some (.slice none 0 0) := (blk_cell BK354.out 1).trans rfl; have hcz56_2 : w52.cell? ⟨gb354, 2, none⟩ = some (.slice none 0 0) := (blk_cell BK354.out 2).trans rfl; have hcz56_3 : w52.cell? ⟨gb354, 3, none⟩ = some (.slice none 0 0) := (blk_cell BK354.out 3).trans rfl; have hfz56_0 := blk_frozen BK354.out 0; have hfz56_1 := blk_frozen BK354.out 1; have hfz56_2 := blk_frozen BK354.out 2; have hfz56_3 := blk_frozen BK354.out 3; obtain ⟨Ao57, co57, eo57⟩ := Kd.R_slice HO347.out; subst eo57; obtain ⟨Ao58, co58, eo58⟩ := Kd.R_slice HO350.out; subst eo58; obtain ⟨Ao59, co59, eo59⟩ := Kd.R_slice HO353.out; subst eo59) | ((with_reducible refine gate_callee (f := 28) rfl ?_); refine goesL_ (some 47) rfl rfl Try.func28 z14_38 rfl #[.slice A3 l3.length c3] rfl z14_4 ?_; (with_reducible refine (laws_toIntS.calls k _ _ l3 t355 _ ?side1 ?side2 A23.out).mono ?_); (case side1 => exact Kd.C_below HR3.out z14_3); (case side2 => exact HC3.out); rintro e w60 ⟨v356, rfl, ho0, hb⟩; refine ⟨_, rfl, ?_⟩; have n0_ := Aside0.mk (Kd.R_elder' z14_37 (Kd.R_base ho0) hb); have n1_ := Aside0.mk (Kd.R_elder' z14_36 (Kd.R_base ho0) hb); have n2_ := Aside0.mk (Kd.R_elder' z14_35 (Kd.R_base ho0) hb); have n3_ := Aside0.mk (Kd.R_elder' z14_34 (Kd.R_base ho0) hb); have n4_ := Aside0.mk (Kd.R_elder' z14_33 (Kd.R_base ho0) hb); have n5_ := Aside0.mk (Kd.R_elder' z14_32 (Kd.R_base ho0) hb); have n6_ := Aside0.mk (Kd.R_elder' z14_31 (Kd.R_base ho0) hb); have n7_ := Aside0.mk (Kd.R_lower (Kd.R_new' (Kd.R_new' (Kd.R_new' (Kd.R_new' (Kd.R_new' (Kd.R_new' (Kd.R_new' ho0 (Kd.R_lt z14_37)) (Kd.R_lt z14_36)) (Kd.R_lt z14_35)) (Kd.R_lt z14_34)) (Kd.R_lt z14_33)) (Kd.R_lt z14_32)) (Kd.R_lt z14_31)) (below_size z14_3)); have n8_ := Aside0.mk (blk_below (g := gb315) (o := .cells #[.int .i64 a0_0, .slice A0_1 l0_1.length c0_1, .slice A0_2 l0_2.length c0_2, .slice A0_3 l0_3.length c0_3] 30 (0, 0)) (by (with_reducible repeat (first | refine blk_drewN ?_ _ | refine blk_drew ?_ | refine blk_alloc ?_ _)); refine blk_far ?_ NB315_354.out _; (with_reducible repeat (first | refine blk_drewN ?_ _ | refine blk_drew ?_ | refine blk_alloc ?_ _)); refine blk_far ?_ NB315_354.out _; (with_reducible repeat (first | refine blk_drewN ?_ _ | refine blk_drew ?_ | refine blk_alloc ?_ _)); refine blk_far ?_ NB315_354.out _; (with_reducible repeat (first | refine blk_drewN ?_ _ | refine blk_drew ?_ | refine blk_alloc ?_ _)); refine blk_far ?_ NB315_354.out _; (with_reducible repeat (first | refine blk_drewN ?_ _ | refine blk_drew ?_ | refine blk_alloc ?_ _)); exact BK315.out) hb); have n9_ := Aside0.mk (blk_below (g := gb316) (o := .cells #[.int .i64 a2_0, .int .i64 a2_1, .int .i64 a2_2, .int .i64 a2_3, .int .i64 a2_4] 50 (0, 0)) (by (with_reducible repeat (first | refine blk_drewN ?_ _ | refine blk_drew ?_ | refine blk_alloc ?_ _)); refine blk_far ?_ NB316_354.out _; (with_reducible repeat (first | refine blk_drewN ?_ _ | refine blk_drew ?_ | refine blk_alloc ?_ _)); refine blk_far ?_ NB316_354.out _; (with_reducible repeat (first | refine blk_drewN ?_ _ | refine blk_drew ?_ | refine blk_alloc ?_ _)); refine blk_far ?_ NB316_354.out _; (with_reducible repeat (first | refine blk_drewN ?_ _ | refine blk_drew ?_ | refine blk_alloc ?_ _)); refine blk_far ?_ NB316_354.out _; (with_reducible repeat (first | refine blk_drewN ?_ _ | refine blk_drew ?_ | refine blk_alloc ?_ _)); exact BK316.out) hb); have n10_ := Aside0.mk (blk_below (g := gb343) (o := .cells #[.int .i64 t336, .int .i64 t337, .int .i64 t338, .int .i64 t339, .int .i64 t340, .int .i64 t341] 83 (0, 0)) (by (with_reducible repeat (first | refine blk_drewN ?_ _ | refine blk_drew ?_ | refine blk_alloc ?_ _)); refine blk_far ?_ NB343_354.out _; (with_reducible repeat (first | refine blk_drewN ?_ _ | refine blk_drew ?_ | refine blk_alloc ?_ _)); refine blk_far ?_ NB343_354.out _; (with_reducible repeat (first | refine blk_drewN ?_ _ | refine blk_drew ?_ | refine blk_alloc ?_ _)); refine blk_far ?_ NB343_354.out _; (with_reducible repeat (first | refine blk_drewN ?_ _ | refine blk_drew ?_ | refine blk_alloc ?_ _)); refine blk_far ?_ NB343_354.out _; (with_reducible repeat (first | refine blk_drewN ?_ _ | refine blk_drew ?_ | refine blk_alloc ?_ _)); exact BK343.out) hb); have n11_ := Aside0.mk (blk_below (g := gb354) (o := .cells #[.int .i64 t344, .slice Ao57 t345.length co57, .slice Ao58 t348.length co58, .slice Ao59 t351.length co59] 33 (0, 0)) (by (with_reducible repeat (first | refine blk_drewN ?_ _ | refine blk_drew ?_ | refine blk_alloc ?_ _)); refine blk_put (cs := #[.int .i64 t344, .slice Ao57 t345.length co57, .slice Ao58 t348.length co58, .slice none 0 0]) ?_ 3 _ rfl; (with_reducible repeat (first | refine blk_drewN ?_ _ | refine blk_drew ?_ | refine blk_alloc ?_ _)); refine blk_put (cs := #[.int .i64 t344, .slice Ao57 t345.length co57, .slice none 0 0, .slice none 0 0]) ?_ 2 _ rfl; (with_reducible repeat (first | refine blk_drewN ?_ _ | refine blk_drew ?_ | refine blk_alloc ?_ _)); refine blk_put (cs := #[.int .i64 t344, .slice none 0 0, .slice none 0 0, .slice none 0 0]) ?_ 1 _ rfl; (with_reducible repeat (first | refine blk_drewN ?_ _ | refine blk_drew ?_ | refine blk_alloc ?_ _)); refine blk_put (cs := #[.int .i64 0, .slice none 0 0, .slice none 0 0, .slice none 0 0]) ?_ 0 _ rfl; (with_reducible repeat (first | refine blk_drewN ?_ _ | refine blk_drew ?_ | refine blk_alloc ?_ _)); exact BK354.out) hb); have n12_ := Aside0.mk (below_step z14_3 hb); clear HO321; clear HO324; clear HO327; clear HO335; clear HO347; clear HO350; clear HO353; clear BK315; clear BK316; clear BK343; clear BK354; clear HB; have HO321 := n0_; have HO324 := n1_; have HO327 := n2_; have HO335 := n3_; have HO347 := n4_; have HO350 := n5_; have HO353 := n6_; have HO357 := n7_; have BK315 := n8_; have BK316 := n9_; have BK343 := n10_; have BK354 := n11_; have HB := n12_; clear n0_ n1_ n2_ n3_ n4_ n5_ n6_ n7_ n8_ n9_ n10_ n11_ n12_; (try clear hb); (try clear hb2); (try clear hk); (try clear hi); (try clear ho0); obtain ⟨Ao61, co61, eo61⟩ := Kd.R_slice HO357.out; subst eo61))
      have n0_ := Aside0.mk (Kd.R_drew HO321.out)
      have n1_ := Aside0.mk (Kd.R_drew HO324.out)
      have n2_ := Aside0.mk (Kd.R_drew HO327.out)
      have n3_ := Aside0.mk (Kd.R_drew HO335.out)
      have n4_ := Aside0.mk (Kd.R_drew HO347.out)
      have n5_ := Aside0.mk (Kd.R_drew HO350.out)
      have n6_ := Aside0.mk (Kd.R_drew HO353.out)
      have n7_ := Aside0.mk (Kd.R_drew HO357.out)
      have n8_ := Aside0.mk (blk_drew BK315.out)
      have n9_ := Aside0.mk (blk_drew BK316.out)
      have n10_ := Aside0.mk (blk_drew BK343.out)
      have n11_ := Aside0.mk (blk_drew BK354.out)
      have n12_ := Aside0.mk (below_drew1 HB.out)
      clear HO321
      clear HO324
      clear HO327
      clear HO335
      clear HO347
      clear HO350
      clear HO353
      clear HO357
      clear BK315
      clear BK316
      clear BK343
      clear BK354
      clear HB
      have HO321 := n0_
      have HO324 := n1_
      have HO327 := n2_
      have HO335 := n3_
      have HO347 := n4_
      have HO350 := n5_
      have HO353 := n6_
      have HO357 := n7_
      have BK315 := n8_
      have BK316 := n9_
      have BK343 := n10_
      have BK354 := n11_
      have HB := n12_
      clear n0_ n1_ n2_ n3_ n4_ n5_ n6_ n7_ n8_ n9_ n10_ n11_ n12_
      refine start_ (n := 15) (S := fun w' => w'.cell? ⟨gb354, 0, none⟩ = some (.int .i64 t344) ∧ w'.cell? ⟨gb354, 1, none⟩ = some (.slice Ao57 t345.length co57) ∧ w'.cell? ⟨gb354, 2, none⟩ = some (.slice Ao58 t348.length co58) ∧ w'.cell? ⟨gb354, 3, none⟩ = some (.slice Ao59 t351.length co59) ∧ w'.cell? ⟨gb316, 0, none⟩ = some (.int .i64 a2_0) ∧ w'.cell? ⟨gb316, 1, none⟩ = some (.int .i64 a2_1) ∧ w'.cell? ⟨gb316, 2, none⟩ = some (.int .i64 a2_2) ∧ w'.cell? ⟨gb316, 3, none⟩ = some (.int .i64 a2_3) ∧ w'.cell? ⟨gb316, 4, none⟩ = some (.int .i64 a2_4)) (ds := []) #[false, false, false, false, false, false, false, false, false, false, false, false, false, false, false] z14_38 rfl rfl ⟨(blk_cell BK354.out 0).trans rfl, (blk_cell BK354.out 1).trans rfl, (blk_cell BK354.out 2).trans rfl, (blk_cell BK354.out 3).trans rfl, (blk_cell BK316.out 0).trans rfl, (blk_cell BK316.out 1).trans rfl, (blk_cell BK316.out 2).trans rfl, (blk_cell BK316.out 3).trans rfl, (blk_cell BK316.out 4).trans rfl⟩ (fun hHeld => ?_); refine with_tabW laws_FnExactHealthFact.tab10 laws_FnExactHealthFact.bits10 (fun HT_ HW_ => ?_)
      generalize w60.drew = w62 at HO321 HO324 HO327 HO335 HO347 HO350 HO353 HO357 BK315 BK316 BK343 BK354 HB hHeld ⊢
      refine pure_ (i := 1) (N := some 50) (v := ?_) (a' := ?_) #[false, true, false, false, false, false, false, false, false, false, false, false, false, false, false] rfl rfl (any_of HT_.out z14_38) (fun _ _ _ h => h) (Or.inl ⟨by rfl, ?_⟩) ?_ ?_
      rotate_left
      · intro w'
        go_simp
        with_reducible rfl
      rotate_left
      · simp only [Act.put, List.setIfInBounds_toArray, List.set_cons_zero, List.set_cons_succ, i64_w, i32_w]
        rfl
      refine pure_ (i := 4) (N := some 53) (v := ?_) (a' := ?_) #[false, true, false, false, true, false, false, false, false, false, false, false, false, false, false] rfl rfl (any_of HT_.out z14_38) (fun _ _ _ h => h) (Or.inl ⟨by rfl, ?_⟩) ?_ ?_
      rotate_left
      · intro w'
        go_simp
        with_reducible rfl
      rotate_left
      · simp only [Act.put, List.setIfInBounds_toArray, List.set_cons_zero, List.set_cons_succ, i64_w, i32_w]
        rfl
      refine pure_ (i := 5) (N := some 54) (v := ?_) (a' := ?_) #[false, true, false, false, true, true, false, false, false, false, false, false, false, false, false] rfl rfl (any_of HT_.out z14_38) (fun _ _ _ h => h) (Or.inl ⟨by rfl, ?_⟩) ?_ ?_
      rotate_left
      · intro w'
        go_simp
        with_reducible rfl
      rotate_left
      · simp only [Act.put, List.setIfInBounds_toArray, List.set_cons_zero, List.set_cons_succ, i64_w, i32_w]
        rfl
      refine pure_ (i := 6) (N := some 55) (v := ?_) (a' := ?_) #[false, true, false, false, true, true, true, false, false, false, false, false, false, false, false] rfl rfl (any_of HT_.out z14_38) (fun _ _ _ h => h) (Or.inl ⟨by rfl, ?_⟩) ?_ ?_
      rotate_left
      · intro w'
        go_simp
        with_reducible rfl
      rotate_left
      · simp only [Act.put, List.setIfInBounds_toArray, List.set_cons_zero, List.set_cons_succ, i64_w, i32_w]
        rfl
      refine pure_ (i := 7) (N := some 56) (v := ?_) (a' := ?_) #[false, true, false, false, true, true, true, true, false, false, false, false, false, false, false] rfl rfl (any_of HT_.out z14_38) (fun _ _ _ h => h) (Or.inl ⟨by rfl, ?_⟩) ?_ ?_
      rotate_left
      · intro w'
        go_simp
        with_reducible rfl
      rotate_left
      · simp only [Act.put, List.setIfInBounds_toArray, List.set_cons_zero, List.set_cons_succ, i64_w, i32_w]
        rfl
      refine take_ (i := 0) (N := some 49) (v := ?_) (a' := ?_) #[true, true, false, false, true, true, true, true, false, false, false, false, false, false, false] rfl rfl (take_ofW HT_.out HW_.out z14_38) (fun _ _ _ h => h) (Or.inl ⟨by rfl, ?_⟩) hHeld ?_ ?_
      rotate_left
      · rintro w' ⟨s0, s1, s2, s3, s4, s5, s6, s7, s8⟩
        go_simp
        with_reducible rfl
      rotate_left
      · simp only [Act.put, List.setIfInBounds_toArray, List.set_cons_zero, List.set_cons_succ, i64_w, i32_w]
        rfl
      refine take_ (i := 2) (N := some 51) (v := ?_) (a' := ?_) #[true, true, true, false, true, true, true, true, false, false, false, false, false, false, false] rfl rfl (take_ofW HT_.out HW_.out z14_38) (fun _ _ _ h => h) (Or.inl ⟨by rfl, ?_⟩) hHeld ?_ ?_
      rotate_left
      · rintro w' ⟨s0, s1, s2, s3, s4, s5, s6, s7, s8⟩
        go_simp
        with_reducible rfl
      rotate_left
      · simp only [Act.put, List.setIfInBounds_toArray, List.set_cons_zero, List.set_cons_succ, i64_w, i32_w]
        rfl
      refine join_ (σ := Nat) 2 #[true, true, true, true, true, true, true, true, true, true, true, true, true, false, false] (fun s_ => [(52, .agg #[.int .i64 t358, .int .i64 t359, .int .i64 t360, .int .i64 t361, .int .i64 t362]), (57, .tuple #[.agg #[.int .i64 t363, .int .i64 t364, .int .i64 t365, .int .i64 t366, .int .i64 t367, .int .i64 t368], .bool t369]), (20, .pointer (some ⟨s_, 0, none⟩)), (48, .tuple #[.agg #[.int .i64 t363, .int .i64 t364, .int .i64 t365, .int .i64 t366, .int .i64 t367, .int .i64 t368], .bool t369]), (58, .agg #[.int .i64 t363, .int .i64 t364, .int .i64 t365, .int .i64 t366, .int .i64 t367, .int .i64 t368]), (59, .bool t369)]) (fun s_ w' => (w'.cell? ⟨gb354, 0, none⟩ = some (.int .i64 t344) ∧ w'.cell? ⟨gb354, 1, none⟩ = some (.slice Ao57 t345.length co57) ∧ w'.cell? ⟨gb354, 2, none⟩ = some (.slice Ao58 t348.length co58) ∧ w'.cell? ⟨gb354, 3, none⟩ = some (.slice Ao59 t351.length co59) ∧ w'.cell? ⟨gb316, 0, none⟩ = some (.int .i64 a2_0) ∧ w'.cell? ⟨gb316, 1, none⟩ = some (.int .i64 a2_1) ∧ w'.cell? ⟨gb316, 2, none⟩ = some (.int .i64 a2_2) ∧ w'.cell? ⟨gb316, 3, none⟩ = some (.int .i64 a2_3) ∧ w'.cell? ⟨gb316, 4, none⟩ = some (.int .i64 a2_4)) ∧ (Kd.R (Kd.int .i64) 3 w' w.heap.size (fun k_ => some k_ ≠ (v323 : Value).ownBlock ∧ some k_ ≠ (v326 : Value).ownBlock ∧ some k_ ≠ (v334 : Value).ownBlock ∧ some k_ ≠ (.slice Ao57 t345.length co57 : Value).ownBlock ∧ some k_ ≠ (.slice Ao58 t348.length co58 : Value).ownBlock ∧ some k_ ≠ (.slice Ao59 t351.length co59 : Value).ownBlock ∧ some k_ ≠ (.slice Ao61 t355.length co61 : Value).ownBlock) v320 t319) ∧ (Kd.R (Kd.int .i64) 3 w' w.heap.size (fun k_ => some k_ ≠ (v320 : Value).ownBlock ∧ some k_ ≠ (v326 : Value).ownBlock ∧ some k_ ≠ (v334 : Value).ownBlock ∧ some k_ ≠ (.slice Ao57 t345.length co57 : Value).ownBlock ∧ some k_ ≠ (.slice Ao58 t348.length co58 : Value).ownBlock ∧ some k_ ≠ (.slice Ao59 t351.length co59 : Value).ownBlock ∧ some k_ ≠ (.slice Ao61 t355.length co61 : Value).ownBlock) v323 t322) ∧ (Kd.R (Kd.int .i64) 3 w' w.heap.size (fun k_ => some k_ ≠ (v320 : Value).ownBlock ∧ some k_ ≠ (v323 : Value).ownBlock ∧ some k_ ≠ (v334 : Value).ownBlock ∧ some k_ ≠ (.slice Ao57 t345.length co57 : Value).ownBlock ∧ some k_ ≠ (.slice Ao58 t348.length co58 : Value).ownBlock ∧ some k_ ≠ (.slice Ao59 t351.length co59 : Value).ownBlock ∧ some k_ ≠ (.slice Ao61 t355.length co61 : Value).ownBlock) v326 t325) ∧ (Kd.R (Kd.int .i64) 3 w' w.heap.size (fun k_ => some k_ ≠ (v320 : Value).ownBlock ∧ some k_ ≠ (v323 : Value).ownBlock ∧ some k_ ≠ (v326 : Value).ownBlock ∧ some k_ ≠ (.slice Ao57 t345.length co57 : Value).ownBlock ∧ some k_ ≠ (.slice Ao58 t348.length co58 : Value).ownBlock ∧ some k_ ≠ (.slice Ao59 t351.length co59 : Value).ownBlock ∧ some k_ ≠ (.slice Ao61 t355.length co61 : Value).ownBlock) v334 t333) ∧ (Kd.R (Kd.int .i64) 3 w' w.heap.size (fun k_ => some k_ ≠ (v320 : Value).ownBlock ∧ some k_ ≠ (v323 : Value).ownBlock ∧ some k_ ≠ (v326 : Value).ownBlock ∧ some k_ ≠ (v334 : Value).ownBlock ∧ some k_ ≠ (.slice Ao58 t348.length co58 : Value).ownBlock ∧ some k_ ≠ (.slice Ao59 t351.length co59 : Value).ownBlock ∧ some k_ ≠ (.slice Ao61 t355.length co61 : Value).ownBlock) (.slice Ao57 t345.length co57) t345) ∧ (Kd.R (Kd.int .i64) 3 w' w.heap.size (fun k_ => some k_ ≠ (v320 : Value).ownBlock ∧ some k_ ≠ (v323 : Value).ownBlock ∧ some k_ ≠ (v326 : Value).ownBlock ∧ some k_ ≠ (v334 : Value).ownBlock ∧ some k_ ≠ (.slice Ao57 t345.length co57 : Value).ownBlock ∧ some k_ ≠ (.slice Ao59 t351.length co59 : Value).ownBlock ∧ some k_ ≠ (.slice Ao61 t355.length co61 : Value).ownBlock) (.slice Ao58 t348.length co58) t348) ∧ (Kd.R (Kd.int .i64) 3 w' w.heap.size (fun k_ => some k_ ≠ (v320 : Value).ownBlock ∧ some k_ ≠ (v323 : Value).ownBlock ∧ some k_ ≠ (v326 : Value).ownBlock ∧ some k_ ≠ (v334 : Value).ownBlock ∧ some k_ ≠ (.slice Ao57 t345.length co57 : Value).ownBlock ∧ some k_ ≠ (.slice Ao58 t348.length co58 : Value).ownBlock ∧ some k_ ≠ (.slice Ao61 t355.length co61 : Value).ownBlock) (.slice Ao59 t351.length co59) t351) ∧ (Kd.R (Kd.int .i64) 3 w' w.heap.size (fun k_ => some k_ ≠ (v320 : Value).ownBlock ∧ some k_ ≠ (v323 : Value).ownBlock ∧ some k_ ≠ (v326 : Value).ownBlock ∧ some k_ ≠ (v334 : Value).ownBlock ∧ some k_ ≠ (.slice Ao57 t345.length co57 : Value).ownBlock ∧ some k_ ≠ (.slice Ao58 t348.length co58 : Value).ownBlock ∧ some k_ ≠ (.slice Ao59 t351.length co59 : Value).ownBlock) (.slice Ao61 t355.length co61) t355) ∧ (w'.heap[gb315]? = some (.cells #[.int .i64 a0_0, .slice A0_1 l0_1.length c0_1, .slice A0_2 l0_2.length c0_2, .slice A0_3 l0_3.length c0_3] 30 (0, 0))) ∧ (w'.heap[gb316]? = some (.cells #[.int .i64 a2_0, .int .i64 a2_1, .int .i64 a2_2, .int .i64 a2_3, .int .i64 a2_4] 50 (0, 0))) ∧ (w'.heap[gb343]? = some (.cells #[.int .i64 t336, .int .i64 t337, .int .i64 t338, .int .i64 t339, .int .i64 t340, .int .i64 t341] 83 (0, 0))) ∧ (w'.heap[gb354]? = some (.cells #[.int .i64 t344, .slice Ao57 t345.length co57, .slice Ao58 t348.length co58, .slice Ao59 t351.length co59] 33 (0, 0))) ∧ (w'.heap[s_]? = some (.cells #[.int .i64 0, .int .i64 0, .int .i64 0, .int .i64 0, .int .i64 0, .int .i64 0] 83 (0, 0))) ∧ (w.heap.size ≤ s_) ∧ (w.heap.size ≤ s_) ∧ (gb315 ≠ s_) ∧ (s_ ≠ gb315) ∧ (gb316 ≠ s_) ∧ (s_ ≠ gb316) ∧ (gb343 ≠ s_) ∧ (s_ ≠ gb343) ∧ (gb354 ≠ s_) ∧ (s_ ≠ gb354) ∧ (Below w.heap.size w w')) ?_ ?_
      rotate_left
      · intro hCont
        refine two_ (i := 3) (j := 12) (Ni := some 52) (Nj := some 20) #[true, true, true, true, true, true, true, true, false, false, false, false, false, false, false] #[true, true, true, false, true, true, true, true, false, false, false, false, true, false, false] rfl rfl rfl rfl (two_of HT_.out z14_38) (by decide) (by decide) (fun K hK => ?_) (fun K hK => ?_)
        · skip
          refine goes_ Try.func37 z14_38 rfl #[.agg #[.int .i64 a2_0, .int .i64 a2_1, .int .i64 a2_2, .int .i64 a2_3, .int .i64 a2_4]] (by rfl) rfl rfl z14_4 ?_
          with_reducible refine (laws_toQuote.calls a2_0 a2_1 a2_2 a2_3 a2_4 t358 t359 t360 t361 t362 _ A24.out).mono ?_
          rintro e w63 ⟨rfl, hb⟩
          refine ⟨_, rfl, ?_⟩
          have n0_ := Aside0.mk (Kd.R_below (pR14_ HO321.out) hb)
          have n1_ := Aside0.mk (Kd.R_below (pR14_ HO324.out) hb)
          have n2_ := Aside0.mk (Kd.R_below (pR14_ HO327.out) hb)
          have n3_ := Aside0.mk (Kd.R_below (pR14_ HO335.out) hb)
          have n4_ := Aside0.mk (Kd.R_below (pR14_ HO347.out) hb)
          have n5_ := Aside0.mk (Kd.R_below (pR14_ HO350.out) hb)
          have n6_ := Aside0.mk (Kd.R_below (pR14_ HO353.out) hb)
          have n7_ := Aside0.mk (Kd.R_below (pR14_ HO357.out) hb)
          have n8_ := Aside0.mk (blk_below (g := gb315) (o := .cells #[.int .i64 a0_0, .slice A0_1 l0_1.length c0_1, .slice A0_2 l0_2.length c0_2, .slice A0_3 l0_3.length c0_3] 30 (0, 0)) (pB14_ BK315.out) hb)
          have n9_ := Aside0.mk (blk_below (g := gb316) (o := .cells #[.int .i64 a2_0, .int .i64 a2_1, .int .i64 a2_2, .int .i64 a2_3, .int .i64 a2_4] 50 (0, 0)) (pB14_ BK316.out) hb)
          have n10_ := Aside0.mk (blk_below (g := gb343) (o := .cells #[.int .i64 t336, .int .i64 t337, .int .i64 t338, .int .i64 t339, .int .i64 t340, .int .i64 t341] 83 (0, 0)) (pB14_ BK343.out) hb)
          have n11_ := Aside0.mk (blk_below (g := gb354) (o := .cells #[.int .i64 t344, .slice Ao57 t345.length co57, .slice Ao58 t348.length co58, .slice Ao59 t351.length co59] 33 (0, 0)) (pB14_ BK354.out) hb)
          have n12_ := Aside0.mk (below_step z14_3 hb)
          clear HO321
          clear HO324
          clear HO327
          clear HO335
          clear HO347
          clear HO350
          clear HO353
          clear HO357
          clear BK315
          clear BK316
          clear BK343
          clear BK354
          clear HB
          have HO321 := n0_
          have HO324 := n1_
          have HO327 := n2_
          have HO335 := n3_
          have HO347 := n4_
          have HO350 := n5_
          have HO353 := n6_
          have HO357 := n7_
          have BK315 := n8_
          have BK316 := n9_
          have BK343 := n10_
          have BK354 := n11_
          have HB := n12_
          clear n0_ n1_ n2_ n3_ n4_ n5_ n6_ n7_ n8_ n9_ n10_ n11_ n12_
          (try clear hb)
          (try clear hb2)
          (try clear hk)
          (try clear hi)
          refine hK.out _ _ ⟨(blk_cell BK354.out 0).trans rfl, (blk_cell BK354.out 1).trans rfl, (blk_cell BK354.out 2).trans rfl, (blk_cell BK354.out 3).trans rfl, (blk_cell BK316.out 0).trans rfl, (blk_cell BK316.out 1).trans rfl, (blk_cell BK316.out 2).trans rfl, (blk_cell BK316.out 3).trans rfl, (blk_cell BK316.out 4).trans rfl⟩ (fun hHeld => ?_)
          clear hK K
          refine norm_ (a' := ?_) ?_ ?_
          rotate_left
          · show Act.put _ (some 52) _ = _
            simp only [Act.put, List.setIfInBounds_toArray, List.set_cons_zero, List.set_cons_succ, i64_w, i32_w]
            rfl
          refine two_ (i := 8) (j := 12) (Ni := some 57) (Nj := some 20) #[true, true, true, true, true, true, true, true, true, false, false, false, false, false, false] #[true, true, true, true, true, true, true, true, false, false, false, false, true, false, false] rfl rfl rfl rfl (two_of HT_.out z14_38) (by decide) (by decide) (fun K hK => ?_) (fun K hK => ?_)
          · skip
            refine goes_ Try.func62 z14_38 rfl #[.agg #[.int .i64 t344, .slice Ao57 t345.length co57, .slice Ao58 t348.length co58, .slice Ao59 t351.length co59], .int .i64 a1, .agg #[.int .i64 t358, .int .i64 t359, .int .i64 t360, .int .i64 t361, .int .i64 t362], .slice Ao61 t355.length co61, .int .i64 a4, .int .i64 a5, .int .i64 a6] (by rfl) rfl rfl z14_4 ?_
            with_reducible refine (impl_HealthFact.calls k t344 _ _ t345 _ _ t348 _ _ t351 a1 t358 t359 t360 t361 t362 _ _ t355 a4 a5 a6 t363 t364 t365 t366 t367 t368 t369 _ ?side1 ?side2 ?side3 ?side4 ?side5 ?side6 ?side7 ?side8 A25.out).mono ?_
            (case side1 => repeat (first | exact (Kd.R_reads' HO347.out).2.2 | (with_reducible refine Kd.C_alloc ?_ _) | (with_reducible refine Kd.C_drewN ?_ _) | (with_reducible refine Kd.C_drew ?_)))
            (case side2 => exact (Kd.R_reads' HO347.out).2.1)
            (case side3 => repeat (first | exact (Kd.R_reads' HO350.out).2.2 | (with_reducible refine Kd.C_alloc ?_ _) | (with_reducible refine Kd.C_drewN ?_ _) | (with_reducible refine Kd.C_drew ?_)))
            (case side4 => exact (Kd.R_reads' HO350.out).2.1)
            (case side5 => repeat (first | exact (Kd.R_reads' HO353.out).2.2 | (with_reducible refine Kd.C_alloc ?_ _) | (with_reducible refine Kd.C_drewN ?_ _) | (with_reducible refine Kd.C_drew ?_)))
            (case side6 => exact (Kd.R_reads' HO353.out).2.1)
            (case side7 => repeat (first | exact (Kd.R_reads' HO357.out).2.2 | (with_reducible refine Kd.C_alloc ?_ _) | (with_reducible refine Kd.C_drewN ?_ _) | (with_reducible refine Kd.C_drew ?_)))
            (case side8 => exact (Kd.R_reads' HO357.out).2.1)
            rintro e w64 ⟨rfl, hb⟩
            refine ⟨_, rfl, ?_⟩
            have n0_ := Aside0.mk (Kd.R_below (pR14_ HO321.out) hb)
            have n1_ := Aside0.mk (Kd.R_below (pR14_ HO324.out) hb)
            have n2_ := Aside0.mk (Kd.R_below (pR14_ HO327.out) hb)
            have n3_ := Aside0.mk (Kd.R_below (pR14_ HO335.out) hb)
            have n4_ := Aside0.mk (Kd.R_below (pR14_ HO347.out) hb)
            have n5_ := Aside0.mk (Kd.R_below (pR14_ HO350.out) hb)
            have n6_ := Aside0.mk (Kd.R_below (pR14_ HO353.out) hb)
            have n7_ := Aside0.mk (Kd.R_below (pR14_ HO357.out) hb)
            have n8_ := Aside0.mk (blk_below (g := gb315) (o := .cells #[.int .i64 a0_0, .slice A0_1 l0_1.length c0_1, .slice A0_2 l0_2.length c0_2, .slice A0_3 l0_3.length c0_3] 30 (0, 0)) (pB14_ BK315.out) hb)
            have n9_ := Aside0.mk (blk_below (g := gb316) (o := .cells #[.int .i64 a2_0, .int .i64 a2_1, .int .i64 a2_2, .int .i64 a2_3, .int .i64 a2_4] 50 (0, 0)) (pB14_ BK316.out) hb)
            have n10_ := Aside0.mk (blk_below (g := gb343) (o := .cells #[.int .i64 t336, .int .i64 t337, .int .i64 t338, .int .i64 t339, .int .i64 t340, .int .i64 t341] 83 (0, 0)) (pB14_ BK343.out) hb)
            have n11_ := Aside0.mk (blk_below (g := gb354) (o := .cells #[.int .i64 t344, .slice Ao57 t345.length co57, .slice Ao58 t348.length co58, .slice Ao59 t351.length co59] 33 (0, 0)) (pB14_ BK354.out) hb)
            have n12_ := Aside0.mk (below_step z14_3 hb)
            clear HO321
            clear HO324
            clear HO327
            clear HO335
            clear HO347
            clear HO350
            clear HO353
            clear HO357
            clear BK315
            clear BK316
            clear BK343
            clear BK354
            clear HB
            have HO321 := n0_
            have HO324 := n1_
            have HO327 := n2_
            have HO335 := n3_
            have HO347 := n4_
            have HO350 := n5_
            have HO353 := n6_
            have HO357 := n7_
            have BK315 := n8_
            have BK316 := n9_
            have BK343 := n10_
            have BK354 := n11_
            have HB := n12_
            clear n0_ n1_ n2_ n3_ n4_ n5_ n6_ n7_ n8_ n9_ n10_ n11_ n12_
            (try clear hb)
            (try clear hb2)
            (try clear hk)
            (try clear hi)
            refine hK.out _ _ ⟨(blk_cell BK354.out 0).trans rfl, (blk_cell BK354.out 1).trans rfl, (blk_cell BK354.out 2).trans rfl, (blk_cell BK354.out 3).trans rfl, (blk_cell BK316.out 0).trans rfl, (blk_cell BK316.out 1).trans rfl, (blk_cell BK316.out 2).trans rfl, (blk_cell BK316.out 3).trans rfl, (blk_cell BK316.out 4).trans rfl⟩ (fun hHeld => ?_)
            clear hK K
            refine norm_ (a' := ?_) ?_ ?_
            rotate_left
            · show Act.put _ (some 57) _ = _
              simp only [Act.put, List.setIfInBounds_toArray, List.set_cons_zero, List.set_cons_succ, i64_w, i32_w]
              rfl
            refine pure_ (i := 9) (N := some 48) (v := ?_) (a' := ?_) #[true, true, true, true, true, true, true, true, true, true, false, false, false, false, false] rfl rfl (any_of HT_.out z14_38) (fun _ _ _ h => h) (Or.inl ⟨by rfl, ?_⟩) ?_ ?_
            rotate_left
            · intro w'
              go_simp
              with_reducible rfl
            rotate_left
            · simp only [Act.put, List.setIfInBounds_toArray, List.set_cons_zero, List.set_cons_succ, i64_w, i32_w]
              rfl
            refine pure_ (i := 10) (N := some 58) (v := ?_) (a' := ?_) #[true, true, true, true, true, true, true, true, true, true, true, false, false, false, false] rfl rfl (any_of HT_.out z14_38) (fun _ _ _ h => h) (Or.inl ⟨by rfl, ?_⟩) ?_ ?_
            rotate_left
            · intro w'
              go_simp
              with_reducible rfl
            rotate_left
            · simp only [Act.put, List.setIfInBounds_toArray, List.set_cons_zero, List.set_cons_succ, i64_w, i32_w]
              rfl
            refine pure_ (i := 11) (N := some 59) (v := ?_) (a' := ?_) #[true, true, true, true, true, true, true, true, true, true, true, true, false, false, false] rfl rfl (any_of HT_.out z14_38) (fun _ _ _ h => h) (Or.inl ⟨by rfl, ?_⟩) ?_ ?_
            rotate_left
            · intro w'
              go_simp
              with_reducible rfl
            rotate_left
            · simp only [Act.put, List.setIfInBounds_toArray, List.set_cons_zero, List.set_cons_succ, i64_w, i32_w]
              rfl
            refine one_ (i := 12) (N := some 20) #[true, true, true, true, true, true, true, true, true, true, true, true, true, false, false] rfl rfl (one_of HT_.out z14_38) (by decide) (fun K hK => ?_)
            refine box_step ?hg (N := 20) ?hd (cs := #[.int .i64 0, .int .i64 0, .int .i64 0, .int .i64 0, .int .i64 0, .int .i64 0]) (t := 83) ?hr ?_; (case hd => rfl); (case hg => rfl); (case hr => first | (go_simp; done) | (go_simp; rfl))
            intro gb370 hg w65 hbox hb
            have n0_ := Aside0.mk (Kd.R_below (pR14_ HO321.out) hb)
            have n1_ := Aside0.mk (Kd.R_below (pR14_ HO324.out) hb)
            have n2_ := Aside0.mk (Kd.R_below (pR14_ HO327.out) hb)
            have n3_ := Aside0.mk (Kd.R_below (pR14_ HO335.out) hb)
            have n4_ := Aside0.mk (Kd.R_below (pR14_ HO347.out) hb)
            have n5_ := Aside0.mk (Kd.R_below (pR14_ HO350.out) hb)
            have n6_ := Aside0.mk (Kd.R_below (pR14_ HO353.out) hb)
            have n7_ := Aside0.mk (Kd.R_below (pR14_ HO357.out) hb)
            have n8_ := Aside0.mk (blk_below (g := gb315) (o := .cells #[.int .i64 a0_0, .slice A0_1 l0_1.length c0_1, .slice A0_2 l0_2.length c0_2, .slice A0_3 l0_3.length c0_3] 30 (0, 0)) (pB14_ BK315.out) hb)
            have n9_ := Aside0.mk (blk_below (g := gb316) (o := .cells #[.int .i64 a2_0, .int .i64 a2_1, .int .i64 a2_2, .int .i64 a2_3, .int .i64 a2_4] 50 (0, 0)) (pB14_ BK316.out) hb)
            have n10_ := Aside0.mk (blk_below (g := gb343) (o := .cells #[.int .i64 t336, .int .i64 t337, .int .i64 t338, .int .i64 t339, .int .i64 t340, .int .i64 t341] 83 (0, 0)) (pB14_ BK343.out) hb)
            have n11_ := Aside0.mk (blk_below (g := gb354) (o := .cells #[.int .i64 t344, .slice Ao57 t345.length co57, .slice Ao58 t348.length co58, .slice Ao59 t351.length co59] 33 (0, 0)) (pB14_ BK354.out) hb)
            have n12_ := Aside0.mk (below_step z14_3 hb)
            have n13_ := Aside0.mk (hbox)
            have n14_ := Aside0.mk ((by rw [hg]; exact (below_size z14_3) : w.heap.size ≤ gb370))
            have n15_ := Aside0.mk ((by rw [hg]; exact (below_size z14_3) : w.heap.size ≤ gb370))
            have n16_ := Aside0.mk ((z14_6 : gb315 ≠ gb370))
            have n17_ := Aside0.mk ((z14_7 : gb370 ≠ gb315))
            have n18_ := Aside0.mk ((z14_13 : gb316 ≠ gb370))
            have n19_ := Aside0.mk ((z14_14 : gb370 ≠ gb316))
            have n20_ := Aside0.mk ((z14_29 : gb343 ≠ gb370))
            have n21_ := Aside0.mk ((z14_30 : gb370 ≠ gb343))
            have n22_ := Aside0.mk ((z14_47 : gb354 ≠ gb370))
            have n23_ := Aside0.mk ((z14_48 : gb370 ≠ gb354))
            clear HO321
            clear HO324
            clear HO327
            clear HO335
            clear HO347
            clear HO350
            clear HO353
            clear HO357
            clear BK315
            clear BK316
            clear BK343
            clear BK354
            clear HB
            have HO321 := n0_
            have HO324 := n1_
            have HO327 := n2_
            have HO335 := n3_
            have HO347 := n4_
            have HO350 := n5_
            have HO353 := n6_
            have HO357 := n7_
            have BK315 := n8_
            have BK316 := n9_
            have BK343 := n10_
            have BK354 := n11_
            have HB := n12_
            have BK370 := n13_
            have GW370 := n14_
            have GE370 := n15_
            have NB315_370 := n16_
            have NB370_315 := n17_
            have NB316_370 := n18_
            have NB370_316 := n19_
            have NB343_370 := n20_
            have NB370_343 := n21_
            have NB354_370 := n22_
            have NB370_354 := n23_
            clear n0_ n1_ n2_ n3_ n4_ n5_ n6_ n7_ n8_ n9_ n10_ n11_ n12_ n13_ n14_ n15_ n16_ n17_ n18_ n19_ n20_ n21_ n22_ n23_
            clear hb hbox hg
            refine hK.out _ _ ⟨(blk_cell BK354.out 0).trans rfl, (blk_cell BK354.out 1).trans rfl, (blk_cell BK354.out 2).trans rfl, (blk_cell BK354.out 3).trans rfl, (blk_cell BK316.out 0).trans rfl, (blk_cell BK316.out 1).trans rfl, (blk_cell BK316.out 2).trans rfl, (blk_cell BK316.out 3).trans rfl, (blk_cell BK316.out 4).trans rfl⟩ (fun hHeld => ?_)
            clear hK K
            refine norm_ (a' := ?_) ?_ ?_
            rotate_left
            · show Act.put _ (some 20) _ = _
              simp only [Act.put, List.setIfInBounds_toArray, List.set_cons_zero, List.set_cons_succ, i64_w, i32_w]
              rfl
            exact norm_ (by simp only [putAll, Act.put, List.setIfInBounds_toArray, List.set_cons_zero, List.set_cons_succ]) (hCont (gb370) _ ⟨hHeld, z14_46, z14_45, z14_44, z14_43, z14_42, z14_41, z14_40, z14_39, (pB14_ BK315.out), (pB14_ BK316.out), (pB14_ BK343.out), (pB14_ BK354.out), (pB14_ BK370.out), GW370.out, GE370.out, NB315_370.out, NB370_315.out, NB316_370.out, NB370_316.out, NB343_370.out, NB370_343.out, NB354_370.out, NB370_354.out, z14_2⟩)
          · skip
            refine box_step ?hg (N := 20) ?hd (cs := #[.int .i64 0, .int .i64 0, .int .i64 0, .int .i64 0, .int .i64 0, .int .i64 0]) (t := 83) ?hr ?_; (case hd => rfl); (case hg => rfl); (case hr => first | (go_simp; done) | (go_simp; rfl))
            intro gb370 hg w64 hbox hb
            have n0_ := Aside0.mk (Kd.R_below (pR14_ HO321.out) hb)
            have n1_ := Aside0.mk (Kd.R_below (pR14_ HO324.out) hb)
            have n2_ := Aside0.mk (Kd.R_below (pR14_ HO327.out) hb)
            have n3_ := Aside0.mk (Kd.R_below (pR14_ HO335.out) hb)
            have n4_ := Aside0.mk (Kd.R_below (pR14_ HO347.out) hb)
            have n5_ := Aside0.mk (Kd.R_below (pR14_ HO350.out) hb)
            have n6_ := Aside0.mk (Kd.R_below (pR14_ HO353.out) hb)
            have n7_ := Aside0.mk (Kd.R_below (pR14_ HO357.out) hb)
            have n8_ := Aside0.mk (blk_below (g := gb315) (o := .cells #[.int .i64 a0_0, .slice A0_1 l0_1.length c0_1, .slice A0_2 l0_2.length c0_2, .slice A0_3 l0_3.length c0_3] 30 (0, 0)) (pB14_ BK315.out) hb)
            have n9_ := Aside0.mk (blk_below (g := gb316) (o := .cells #[.int .i64 a2_0, .int .i64 a2_1, .int .i64 a2_2, .int .i64 a2_3, .int .i64 a2_4] 50 (0, 0)) (pB14_ BK316.out) hb)
            have n10_ := Aside0.mk (blk_below (g := gb343) (o := .cells #[.int .i64 t336, .int .i64 t337, .int .i64 t338, .int .i64 t339, .int .i64 t340, .int .i64 t341] 83 (0, 0)) (pB14_ BK343.out) hb)
            have n11_ := Aside0.mk (blk_below (g := gb354) (o := .cells #[.int .i64 t344, .slice Ao57 t345.length co57, .slice Ao58 t348.length co58, .slice Ao59 t351.length co59] 33 (0, 0)) (pB14_ BK354.out) hb)
            have n12_ := Aside0.mk (below_step z14_3 hb)
            have n13_ := Aside0.mk (hbox)
            have n14_ := Aside0.mk ((by rw [hg]; exact (below_size z14_3) : w.heap.size ≤ gb370))
            have n15_ := Aside0.mk ((by rw [hg]; exact (below_size z14_3) : w.heap.size ≤ gb370))
            have n16_ := Aside0.mk ((z14_6 : gb315 ≠ gb370))
            have n17_ := Aside0.mk ((z14_7 : gb370 ≠ gb315))
            have n18_ := Aside0.mk ((z14_13 : gb316 ≠ gb370))
            have n19_ := Aside0.mk ((z14_14 : gb370 ≠ gb316))
            have n20_ := Aside0.mk ((z14_29 : gb343 ≠ gb370))
            have n21_ := Aside0.mk ((z14_30 : gb370 ≠ gb343))
            have n22_ := Aside0.mk ((z14_47 : gb354 ≠ gb370))
            have n23_ := Aside0.mk ((z14_48 : gb370 ≠ gb354))
            clear HO321
            clear HO324
            clear HO327
            clear HO335
            clear HO347
            clear HO350
            clear HO353
            clear HO357
            clear BK315
            clear BK316
            clear BK343
            clear BK354
            clear HB
            have HO321 := n0_
            have HO324 := n1_
            have HO327 := n2_
            have HO335 := n3_
            have HO347 := n4_
            have HO350 := n5_
            have HO353 := n6_
            have HO357 := n7_
            have BK315 := n8_
            have BK316 := n9_
            have BK343 := n10_
            have BK354 := n11_
            have HB := n12_
            have BK370 := n13_
            have GW370 := n14_
            have GE370 := n15_
            have NB315_370 := n16_
            have NB370_315 := n17_
            have NB316_370 := n18_
            have NB370_316 := n19_
            have NB343_370 := n20_
            have NB370_343 := n21_
            have NB354_370 := n22_
            have NB370_354 := n23_
            clear n0_ n1_ n2_ n3_ n4_ n5_ n6_ n7_ n8_ n9_ n10_ n11_ n12_ n13_ n14_ n15_ n16_ n17_ n18_ n19_ n20_ n21_ n22_ n23_
            clear hb hbox hg
            refine hK.out _ _ ⟨(blk_cell BK354.out 0).trans rfl, (blk_cell BK354.out 1).trans rfl, (blk_cell BK354.out 2).trans rfl, (blk_cell BK354.out 3).trans rfl, (blk_cell BK316.out 0).trans rfl, (blk_cell BK316.out 1).trans rfl, (blk_cell BK316.out 2).trans rfl, (blk_cell BK316.out 3).trans rfl, (blk_cell BK316.out 4).trans rfl⟩ (fun hHeld => ?_)
            clear hK K
            refine norm_ (a' := ?_) ?_ ?_
            rotate_left
            · show Act.put _ (some 20) _ = _
              simp only [Act.put, List.setIfInBounds_toArray, List.set_cons_zero, List.set_cons_succ, i64_w, i32_w]
              rfl
            refine one_ (i := 8) (N := some 57) #[true, true, true, true, true, true, true, true, true, false, false, false, true, false, false] rfl rfl (one_of HT_.out z14_38) (by decide) (fun K hK => ?_)
            refine goes_ Try.func62 z14_38 rfl #[.agg #[.int .i64 t344, .slice Ao57 t345.length co57, .slice Ao58 t348.length co58, .slice Ao59 t351.length co59], .int .i64 a1, .agg #[.int .i64 t358, .int .i64 t359, .int .i64 t360, .int .i64 t361, .int .i64 t362], .slice Ao61 t355.length co61, .int .i64 a4, .int .i64 a5, .int .i64 a6] (by rfl) rfl rfl z14_4 ?_
            with_reducible refine (impl_HealthFact.calls k t344 _ _ t345 _ _ t348 _ _ t351 a1 t358 t359 t360 t361 t362 _ _ t355 a4 a5 a6 t363 t364 t365 t366 t367 t368 t369 _ ?side1 ?side2 ?side3 ?side4 ?side5 ?side6 ?side7 ?side8 A25.out).mono ?_
            (case side1 => repeat (first | exact (Kd.R_reads' HO347.out).2.2 | (with_reducible refine Kd.C_alloc ?_ _) | (with_reducible refine Kd.C_drewN ?_ _) | (with_reducible refine Kd.C_drew ?_)))
            (case side2 => exact (Kd.R_reads' HO347.out).2.1)
            (case side3 => repeat (first | exact (Kd.R_reads' HO350.out).2.2 | (with_reducible refine Kd.C_alloc ?_ _) | (with_reducible refine Kd.C_drewN ?_ _) | (with_reducible refine Kd.C_drew ?_)))
            (case side4 => exact (Kd.R_reads' HO350.out).2.1)
            (case side5 => repeat (first | exact (Kd.R_reads' HO353.out).2.2 | (with_reducible refine Kd.C_alloc ?_ _) | (with_reducible refine Kd.C_drewN ?_ _) | (with_reducible refine Kd.C_drew ?_)))
            (case side6 => exact (Kd.R_reads' HO353.out).2.1)
            (case side7 => repeat (first | exact (Kd.R_reads' HO357.out).2.2 | (with_reducible refine Kd.C_alloc ?_ _) | (with_reducible refine Kd.C_drewN ?_ _) | (with_reducible refine Kd.C_drew ?_)))
            (case side8 => exact (Kd.R_reads' HO357.out).2.1)
            rintro e w65 ⟨rfl, hb⟩
            refine ⟨_, rfl, ?_⟩
            have n0_ := Aside0.mk (Kd.R_below (pR14_ HO321.out) hb)
            have n1_ := Aside0.mk (Kd.R_below (pR14_ HO324.out) hb)
            have n2_ := Aside0.mk (Kd.R_below (pR14_ HO327.out) hb)
            have n3_ := Aside0.mk (Kd.R_below (pR14_ HO335.out) hb)
            have n4_ := Aside0.mk (Kd.R_below (pR14_ HO347.out) hb)
            have n5_ := Aside0.mk (Kd.R_below (pR14_ HO350.out) hb)
            have n6_ := Aside0.mk (Kd.R_below (pR14_ HO353.out) hb)
            have n7_ := Aside0.mk (Kd.R_below (pR14_ HO357.out) hb)
            have n8_ := Aside0.mk (blk_below (g := gb315) (o := .cells #[.int .i64 a0_0, .slice A0_1 l0_1.length c0_1, .slice A0_2 l0_2.length c0_2, .slice A0_3 l0_3.length c0_3] 30 (0, 0)) (pB14_ BK315.out) hb)
            have n9_ := Aside0.mk (blk_below (g := gb316) (o := .cells #[.int .i64 a2_0, .int .i64 a2_1, .int .i64 a2_2, .int .i64 a2_3, .int .i64 a2_4] 50 (0, 0)) (pB14_ BK316.out) hb)
            have n10_ := Aside0.mk (blk_below (g := gb343) (o := .cells #[.int .i64 t336, .int .i64 t337, .int .i64 t338, .int .i64 t339, .int .i64 t340, .int .i64 t341] 83 (0, 0)) (pB14_ BK343.out) hb)
            have n11_ := Aside0.mk (blk_below (g := gb354) (o := .cells #[.int .i64 t344, .slice Ao57 t345.length co57, .slice Ao58 t348.length co58, .slice Ao59 t351.length co59] 33 (0, 0)) (pB14_ BK354.out) hb)
            have n12_ := Aside0.mk (blk_below (g := gb370) (o := .cells #[.int .i64 0, .int .i64 0, .int .i64 0, .int .i64 0, .int .i64 0, .int .i64 0] 83 (0, 0)) (pB14_ BK370.out) hb)
            have n13_ := Aside0.mk (below_step z14_2 hb)
            clear HO321
            clear HO324
            clear HO327
            clear HO335
            clear HO347
            clear HO350
            clear HO353
            clear HO357
            clear BK315
            clear BK316
            clear BK343
            clear BK354
            clear BK370
            clear HB
            have HO321 := n0_
            have HO324 := n1_
            have HO327 := n2_
            have HO335 := n3_
            have HO347 := n4_
            have HO350 := n5_
            have HO353 := n6_
            have HO357 := n7_
            have BK315 := n8_
            have BK316 := n9_
            have BK343 := n10_
            have BK354 := n11_
            have BK370 := n12_
            have HB := n13_
            clear n0_ n1_ n2_ n3_ n4_ n5_ n6_ n7_ n8_ n9_ n10_ n11_ n12_ n13_
            (try clear hb)
            (try clear hb2)
            (try clear hk)
            (try clear hi)
            refine hK.out _ _ ⟨(blk_cell BK354.out 0).trans rfl, (blk_cell BK354.out 1).trans rfl, (blk_cell BK354.out 2).trans rfl, (blk_cell BK354.out 3).trans rfl, (blk_cell BK316.out 0).trans rfl, (blk_cell BK316.out 1).trans rfl, (blk_cell BK316.out 2).trans rfl, (blk_cell BK316.out 3).trans rfl, (blk_cell BK316.out 4).trans rfl⟩ (fun hHeld => ?_)
            clear hK K
            refine norm_ (a' := ?_) ?_ ?_
            rotate_left
            · show Act.put _ (some 57) _ = _
              simp only [Act.put, List.setIfInBounds_toArray, List.set_cons_zero, List.set_cons_succ, i64_w, i32_w]
              rfl
            refine pure_ (i := 9) (N := some 48) (v := ?_) (a' := ?_) #[true, true, true, true, true, true, true, true, true, true, false, false, true, false, false] rfl rfl (any_of HT_.out z14_38) (fun _ _ _ h => h) (Or.inl ⟨by rfl, ?_⟩) ?_ ?_
            rotate_left
            · intro w'
              go_simp
              with_reducible rfl
            rotate_left
            · simp only [Act.put, List.setIfInBounds_toArray, List.set_cons_zero, List.set_cons_succ, i64_w, i32_w]
              rfl
            refine pure_ (i := 10) (N := some 58) (v := ?_) (a' := ?_) #[true, true, true, true, true, true, true, true, true, true, true, false, true, false, false] rfl rfl (any_of HT_.out z14_38) (fun _ _ _ h => h) (Or.inl ⟨by rfl, ?_⟩) ?_ ?_
            rotate_left
            · intro w'
              go_simp
              with_reducible rfl
            rotate_left
            · simp only [Act.put, List.setIfInBounds_toArray, List.set_cons_zero, List.set_cons_succ, i64_w, i32_w]
              rfl
            refine pure_ (i := 11) (N := some 59) (v := ?_) (a' := ?_) #[true, true, true, true, true, true, true, true, true, true, true, true, true, false, false] rfl rfl (any_of HT_.out z14_38) (fun _ _ _ h => h) (Or.inl ⟨by rfl, ?_⟩) ?_ ?_
            rotate_left
            · intro w'
              go_simp
              with_reducible rfl
            rotate_left
            · simp only [Act.put, List.setIfInBounds_toArray, List.set_cons_zero, List.set_cons_succ, i64_w, i32_w]
              rfl
            exact norm_ (by simp only [putAll, Act.put, List.setIfInBounds_toArray, List.set_cons_zero, List.set_cons_succ]) (hCont (gb370) _ ⟨hHeld, z14_46, z14_45, z14_44, z14_43, z14_42, z14_41, z14_40, z14_39, (pB14_ BK315.out), (pB14_ BK316.out), (pB14_ BK343.out), (pB14_ BK354.out), (pB14_ BK370.out), GW370.out, GE370.out, NB315_370.out, NB370_315.out, NB316_370.out, NB370_316.out, NB343_370.out, NB370_343.out, NB354_370.out, NB370_354.out, z14_2⟩)
        · skip
          refine box_step ?hg (N := 20) ?hd (cs := #[.int .i64 0, .int .i64 0, .int .i64 0, .int .i64 0, .int .i64 0, .int .i64 0]) (t := 83) ?hr ?_; (case hd => rfl); (case hg => rfl); (case hr => first | (go_simp; done) | (go_simp; rfl))
          intro gb370 hg w63 hbox hb
          have n0_ := Aside0.mk (Kd.R_below (pR14_ HO321.out) hb)
          have n1_ := Aside0.mk (Kd.R_below (pR14_ HO324.out) hb)
          have n2_ := Aside0.mk (Kd.R_below (pR14_ HO327.out) hb)
          have n3_ := Aside0.mk (Kd.R_below (pR14_ HO335.out) hb)
          have n4_ := Aside0.mk (Kd.R_below (pR14_ HO347.out) hb)
          have n5_ := Aside0.mk (Kd.R_below (pR14_ HO350.out) hb)
          have n6_ := Aside0.mk (Kd.R_below (pR14_ HO353.out) hb)
          have n7_ := Aside0.mk (Kd.R_below (pR14_ HO357.out) hb)
          have n8_ := Aside0.mk (blk_below (g := gb315) (o := .cells #[.int .i64 a0_0, .slice A0_1 l0_1.length c0_1, .slice A0_2 l0_2.length c0_2, .slice A0_3 l0_3.length c0_3] 30 (0, 0)) (pB14_ BK315.out) hb)
          have n9_ := Aside0.mk (blk_below (g := gb316) (o := .cells #[.int .i64 a2_0, .int .i64 a2_1, .int .i64 a2_2, .int .i64 a2_3, .int .i64 a2_4] 50 (0, 0)) (pB14_ BK316.out) hb)
          have n10_ := Aside0.mk (blk_below (g := gb343) (o := .cells #[.int .i64 t336, .int .i64 t337, .int .i64 t338, .int .i64 t339, .int .i64 t340, .int .i64 t341] 83 (0, 0)) (pB14_ BK343.out) hb)
          have n11_ := Aside0.mk (blk_below (g := gb354) (o := .cells #[.int .i64 t344, .slice Ao57 t345.length co57, .slice Ao58 t348.length co58, .slice Ao59 t351.length co59] 33 (0, 0)) (pB14_ BK354.out) hb)
          have n12_ := Aside0.mk (below_step z14_3 hb)
          have n13_ := Aside0.mk (hbox)
          have n14_ := Aside0.mk ((by rw [hg]; exact (below_size z14_3) : w.heap.size ≤ gb370))
          have n15_ := Aside0.mk ((by rw [hg]; exact (below_size z14_3) : w.heap.size ≤ gb370))
          have n16_ := Aside0.mk ((z14_6 : gb315 ≠ gb370))
          have n17_ := Aside0.mk ((z14_7 : gb370 ≠ gb315))
          have n18_ := Aside0.mk ((z14_13 : gb316 ≠ gb370))
          have n19_ := Aside0.mk ((z14_14 : gb370 ≠ gb316))
          have n20_ := Aside0.mk ((z14_29 : gb343 ≠ gb370))
          have n21_ := Aside0.mk ((z14_30 : gb370 ≠ gb343))
          have n22_ := Aside0.mk ((z14_47 : gb354 ≠ gb370))
          have n23_ := Aside0.mk ((z14_48 : gb370 ≠ gb354))
          clear HO321
          clear HO324
          clear HO327
          clear HO335
          clear HO347
          clear HO350
          clear HO353
          clear HO357
          clear BK315
          clear BK316
          clear BK343
          clear BK354
          clear HB
          have HO321 := n0_
          have HO324 := n1_
          have HO327 := n2_
          have HO335 := n3_
          have HO347 := n4_
          have HO350 := n5_
          have HO353 := n6_
          have HO357 := n7_
          have BK315 := n8_
          have BK316 := n9_
          have BK343 := n10_
          have BK354 := n11_
          have HB := n12_
          have BK370 := n13_
          have GW370 := n14_
          have GE370 := n15_
          have NB315_370 := n16_
          have NB370_315 := n17_
          have NB316_370 := n18_
          have NB370_316 := n19_
          have NB343_370 := n20_
          have NB370_343 := n21_
          have NB354_370 := n22_
          have NB370_354 := n23_
          clear n0_ n1_ n2_ n3_ n4_ n5_ n6_ n7_ n8_ n9_ n10_ n11_ n12_ n13_ n14_ n15_ n16_ n17_ n18_ n19_ n20_ n21_ n22_ n23_
          clear hb hbox hg
          refine hK.out _ _ ⟨(blk_cell BK354.out 0).trans rfl, (blk_cell BK354.out 1).trans rfl, (blk_cell BK354.out 2).trans rfl, (blk_cell BK354.out 3).trans rfl, (blk_cell BK316.out 0).trans rfl, (blk_cell BK316.out 1).trans rfl, (blk_cell BK316.out 2).trans rfl, (blk_cell BK316.out 3).trans rfl, (blk_cell BK316.out 4).trans rfl⟩ (fun hHeld => ?_)
          clear hK K
          refine norm_ (a' := ?_) ?_ ?_
          rotate_left
          · show Act.put _ (some 20) _ = _
            simp only [Act.put, List.setIfInBounds_toArray, List.set_cons_zero, List.set_cons_succ, i64_w, i32_w]
            rfl
          refine one_ (i := 3) (N := some 52) #[true, true, true, true, true, true, true, true, false, false, false, false, true, false, false] rfl rfl (one_of HT_.out z14_38) (by decide) (fun K hK => ?_)
          refine goes_ Try.func37 z14_38 rfl #[.agg #[.int .i64 a2_0, .int .i64 a2_1, .int .i64 a2_2, .int .i64 a2_3, .int .i64 a2_4]] (by rfl) rfl rfl z14_4 ?_
          with_reducible refine (laws_toQuote.calls a2_0 a2_1 a2_2 a2_3 a2_4 t358 t359 t360 t361 t362 _ A24.out).mono ?_
          rintro e w64 ⟨rfl, hb⟩
          refine ⟨_, rfl, ?_⟩
          have n0_ := Aside0.mk (Kd.R_below (pR14_ HO321.out) hb)
          have n1_ := Aside0.mk (Kd.R_below (pR14_ HO324.out) hb)
          have n2_ := Aside0.mk (Kd.R_below (pR14_ HO327.out) hb)
          have n3_ := Aside0.mk (Kd.R_below (pR14_ HO335.out) hb)
          have n4_ := Aside0.mk (Kd.R_below (pR14_ HO347.out) hb)
          have n5_ := Aside0.mk (Kd.R_below (pR14_ HO350.out) hb)
          have n6_ := Aside0.mk (Kd.R_below (pR14_ HO353.out) hb)
          have n7_ := Aside0.mk (Kd.R_below (pR14_ HO357.out) hb)
          have n8_ := Aside0.mk (blk_below (g := gb315) (o := .cells #[.int .i64 a0_0, .slice A0_1 l0_1.length c0_1, .slice A0_2 l0_2.length c0_2, .slice A0_3 l0_3.length c0_3] 30 (0, 0)) (pB14_ BK315.out) hb)
          have n9_ := Aside0.mk (blk_below (g := gb316) (o := .cells #[.int .i64 a2_0, .int .i64 a2_1, .int .i64 a2_2, .int .i64 a2_3, .int .i64 a2_4] 50 (0, 0)) (pB14_ BK316.out) hb)
          have n10_ := Aside0.mk (blk_below (g := gb343) (o := .cells #[.int .i64 t336, .int .i64 t337, .int .i64 t338, .int .i64 t339, .int .i64 t340, .int .i64 t341] 83 (0, 0)) (pB14_ BK343.out) hb)
          have n11_ := Aside0.mk (blk_below (g := gb354) (o := .cells #[.int .i64 t344, .slice Ao57 t345.length co57, .slice Ao58 t348.length co58, .slice Ao59 t351.length co59] 33 (0, 0)) (pB14_ BK354.out) hb)
          have n12_ := Aside0.mk (blk_below (g := gb370) (o := .cells #[.int .i64 0, .int .i64 0, .int .i64 0, .int .i64 0, .int .i64 0, .int .i64 0] 83 (0, 0)) (pB14_ BK370.out) hb)
          have n13_ := Aside0.mk (below_step z14_2 hb)
          clear HO321
          clear HO324
          clear HO327
          clear HO335
          clear HO347
          clear HO350
          clear HO353
          clear HO357
          clear BK315
          clear BK316
          clear BK343
          clear BK354
          clear BK370
          clear HB
          have HO321 := n0_
          have HO324 := n1_
          have HO327 := n2_
          have HO335 := n3_
          have HO347 := n4_
          have HO350 := n5_
          have HO353 := n6_
          have HO357 := n7_
          have BK315 := n8_
          have BK316 := n9_
          have BK343 := n10_
          have BK354 := n11_
          have BK370 := n12_
          have HB := n13_
          clear n0_ n1_ n2_ n3_ n4_ n5_ n6_ n7_ n8_ n9_ n10_ n11_ n12_ n13_
          (try clear hb)
          (try clear hb2)
          (try clear hk)
          (try clear hi)
          refine hK.out _ _ ⟨(blk_cell BK354.out 0).trans rfl, (blk_cell BK354.out 1).trans rfl, (blk_cell BK354.out 2).trans rfl, (blk_cell BK354.out 3).trans rfl, (blk_cell BK316.out 0).trans rfl, (blk_cell BK316.out 1).trans rfl, (blk_cell BK316.out 2).trans rfl, (blk_cell BK316.out 3).trans rfl, (blk_cell BK316.out 4).trans rfl⟩ (fun hHeld => ?_)
          clear hK K
          refine norm_ (a' := ?_) ?_ ?_
          rotate_left
          · show Act.put _ (some 52) _ = _
            simp only [Act.put, List.setIfInBounds_toArray, List.set_cons_zero, List.set_cons_succ, i64_w, i32_w]
            rfl
          refine one_ (i := 8) (N := some 57) #[true, true, true, true, true, true, true, true, true, false, false, false, true, false, false] rfl rfl (one_of HT_.out z14_38) (by decide) (fun K hK => ?_)
          refine goes_ Try.func62 z14_38 rfl #[.agg #[.int .i64 t344, .slice Ao57 t345.length co57, .slice Ao58 t348.length co58, .slice Ao59 t351.length co59], .int .i64 a1, .agg #[.int .i64 t358, .int .i64 t359, .int .i64 t360, .int .i64 t361, .int .i64 t362], .slice Ao61 t355.length co61, .int .i64 a4, .int .i64 a5, .int .i64 a6] (by rfl) rfl rfl z14_4 ?_
          with_reducible refine (impl_HealthFact.calls k t344 _ _ t345 _ _ t348 _ _ t351 a1 t358 t359 t360 t361 t362 _ _ t355 a4 a5 a6 t363 t364 t365 t366 t367 t368 t369 _ ?side1 ?side2 ?side3 ?side4 ?side5 ?side6 ?side7 ?side8 A25.out).mono ?_
          (case side1 => repeat (first | exact (Kd.R_reads' HO347.out).2.2 | (with_reducible refine Kd.C_alloc ?_ _) | (with_reducible refine Kd.C_drewN ?_ _) | (with_reducible refine Kd.C_drew ?_)))
          (case side2 => exact (Kd.R_reads' HO347.out).2.1)
          (case side3 => repeat (first | exact (Kd.R_reads' HO350.out).2.2 | (with_reducible refine Kd.C_alloc ?_ _) | (with_reducible refine Kd.C_drewN ?_ _) | (with_reducible refine Kd.C_drew ?_)))
          (case side4 => exact (Kd.R_reads' HO350.out).2.1)
          (case side5 => repeat (first | exact (Kd.R_reads' HO353.out).2.2 | (with_reducible refine Kd.C_alloc ?_ _) | (with_reducible refine Kd.C_drewN ?_ _) | (with_reducible refine Kd.C_drew ?_)))
          (case side6 => exact (Kd.R_reads' HO353.out).2.1)
          (case side7 => repeat (first | exact (Kd.R_reads' HO357.out).2.2 | (with_reducible refine Kd.C_alloc ?_ _) | (with_reducible refine Kd.C_drewN ?_ _) | (with_reducible refine Kd.C_drew ?_)))
          (case side8 => exact (Kd.R_reads' HO357.out).2.1)
          rintro e w65 ⟨rfl, hb⟩
          refine ⟨_, rfl, ?_⟩
          have n0_ := Aside0.mk (Kd.R_below (pR14_ HO321.out) hb)
          have n1_ := Aside0.mk (Kd.R_below (pR14_ HO324.out) hb)
          have n2_ := Aside0.mk (Kd.R_below (pR14_ HO327.out) hb)
          have n3_ := Aside0.mk (Kd.R_below (pR14_ HO335.out) hb)
          have n4_ := Aside0.mk (Kd.R_below (pR14_ HO347.out) hb)
          have n5_ := Aside0.mk (Kd.R_below (pR14_ HO350.out) hb)
          have n6_ := Aside0.mk (Kd.R_below (pR14_ HO353.out) hb)
          have n7_ := Aside0.mk (Kd.R_below (pR14_ HO357.out) hb)
          have n8_ := Aside0.mk (blk_below (g := gb315) (o := .cells #[.int .i64 a0_0, .slice A0_1 l0_1.length c0_1, .slice A0_2 l0_2.length c0_2, .slice A0_3 l0_3.length c0_3] 30 (0, 0)) (pB14_ BK315.out) hb)
          have n9_ := Aside0.mk (blk_below (g := gb316) (o := .cells #[.int .i64 a2_0, .int .i64 a2_1, .int .i64 a2_2, .int .i64 a2_3, .int .i64 a2_4] 50 (0, 0)) (pB14_ BK316.out) hb)
          have n10_ := Aside0.mk (blk_below (g := gb343) (o := .cells #[.int .i64 t336, .int .i64 t337, .int .i64 t338, .int .i64 t339, .int .i64 t340, .int .i64 t341] 83 (0, 0)) (pB14_ BK343.out) hb)
          have n11_ := Aside0.mk (blk_below (g := gb354) (o := .cells #[.int .i64 t344, .slice Ao57 t345.length co57, .slice Ao58 t348.length co58, .slice Ao59 t351.length co59] 33 (0, 0)) (pB14_ BK354.out) hb)
          have n12_ := Aside0.mk (blk_below (g := gb370) (o := .cells #[.int .i64 0, .int .i64 0, .int .i64 0, .int .i64 0, .int .i64 0, .int .i64 0] 83 (0, 0)) (pB14_ BK370.out) hb)
          have n13_ := Aside0.mk (below_step z14_2 hb)
          clear HO321
          clear HO324
          clear HO327
          clear HO335
          clear HO347
          clear HO350
          clear HO353
          clear HO357
          clear BK315
          clear BK316
          clear BK343
          clear BK354
          clear BK370
          clear HB
          have HO321 := n0_
          have HO324 := n1_
          have HO327 := n2_
          have HO335 := n3_
          have HO347 := n4_
          have HO350 := n5_
          have HO353 := n6_
          have HO357 := n7_
          have BK315 := n8_
          have BK316 := n9_
          have BK343 := n10_
          have BK354 := n11_
          have BK370 := n12_
          have HB := n13_
          clear n0_ n1_ n2_ n3_ n4_ n5_ n6_ n7_ n8_ n9_ n10_ n11_ n12_ n13_
          (try clear hb)
          (try clear hb2)
          (try clear hk)
          (try clear hi)
          refine hK.out _ _ ⟨(blk_cell BK354.out 0).trans rfl, (blk_cell BK354.out 1).trans rfl, (blk_cell BK354.out 2).trans rfl, (blk_cell BK354.out 3).trans rfl, (blk_cell BK316.out 0).trans rfl, (blk_cell BK316.out 1).trans rfl, (blk_cell BK316.out 2).trans rfl, (blk_cell BK316.out 3).trans rfl, (blk_cell BK316.out 4).trans rfl⟩ (fun hHeld => ?_)
          clear hK K
          refine norm_ (a' := ?_) ?_ ?_
          rotate_left
          · show Act.put _ (some 57) _ = _
            simp only [Act.put, List.setIfInBounds_toArray, List.set_cons_zero, List.set_cons_succ, i64_w, i32_w]
            rfl
          refine pure_ (i := 9) (N := some 48) (v := ?_) (a' := ?_) #[true, true, true, true, true, true, true, true, true, true, false, false, true, false, false] rfl rfl (any_of HT_.out z14_38) (fun _ _ _ h => h) (Or.inl ⟨by rfl, ?_⟩) ?_ ?_
          rotate_left
          · intro w'
            go_simp
            with_reducible rfl
          rotate_left
          · simp only [Act.put, List.setIfInBounds_toArray, List.set_cons_zero, List.set_cons_succ, i64_w, i32_w]
            rfl
          refine pure_ (i := 10) (N := some 58) (v := ?_) (a' := ?_) #[true, true, true, true, true, true, true, true, true, true, true, false, true, false, false] rfl rfl (any_of HT_.out z14_38) (fun _ _ _ h => h) (Or.inl ⟨by rfl, ?_⟩) ?_ ?_
          rotate_left
          · intro w'
            go_simp
            with_reducible rfl
          rotate_left
          · simp only [Act.put, List.setIfInBounds_toArray, List.set_cons_zero, List.set_cons_succ, i64_w, i32_w]
            rfl
          refine pure_ (i := 11) (N := some 59) (v := ?_) (a' := ?_) #[true, true, true, true, true, true, true, true, true, true, true, true, true, false, false] rfl rfl (any_of HT_.out z14_38) (fun _ _ _ h => h) (Or.inl ⟨by rfl, ?_⟩) ?_ ?_
          rotate_left
          · intro w'
            go_simp
            with_reducible rfl
          rotate_left
          · simp only [Act.put, List.setIfInBounds_toArray, List.set_cons_zero, List.set_cons_succ, i64_w, i32_w]
            rfl
          exact norm_ (by simp only [putAll, Act.put, List.setIfInBounds_toArray, List.set_cons_zero, List.set_cons_succ]) (hCont (gb370) _ ⟨hHeld, z14_46, z14_45, z14_44, z14_43, z14_42, z14_41, z14_40, z14_39, (pB14_ BK315.out), (pB14_ BK316.out), (pB14_ BK343.out), (pB14_ BK354.out), (pB14_ BK370.out), GW370.out, GE370.out, NB315_370.out, NB370_315.out, NB316_370.out, NB370_316.out, NB343_370.out, NB370_343.out, NB354_370.out, NB370_354.out, z14_2⟩)
      rintro gb370 w66 ⟨hS_, h0_, h1_, h2_, h3_, h4_, h5_, h6_, h7_, h8_, h9_, h10_, h11_, h12_, h13_, h14_, h15_, h16_, h17_, h18_, h19_, h20_, h21_, h22_, h23_⟩
      have n0_ : Aside0 (Kd.R (Kd.int .i64) 3 w66 w.heap.size (fun k_ => some k_ ≠ (v323 : Value).ownBlock ∧ some k_ ≠ (v326 : Value).ownBlock ∧ some k_ ≠ (v334 : Value).ownBlock ∧ some k_ ≠ (.slice Ao57 t345.length co57 : Value).ownBlock ∧ some k_ ≠ (.slice Ao58 t348.length co58 : Value).ownBlock ∧ some k_ ≠ (.slice Ao59 t351.length co59 : Value).ownBlock ∧ some k_ ≠ (.slice Ao61 t355.length co61 : Value).ownBlock) v320 t319) := ⟨h0_⟩
      have n1_ : Aside0 (Kd.R (Kd.int .i64) 3 w66 w.heap.size (fun k_ => some k_ ≠ (v320 : Value).ownBlock ∧ some k_ ≠ (v326 : Value).ownBlock ∧ some k_ ≠ (v334 : Value).ownBlock ∧ some k_ ≠ (.slice Ao57 t345.length co57 : Value).ownBlock ∧ some k_ ≠ (.slice Ao58 t348.length co58 : Value).ownBlock ∧ some k_ ≠ (.slice Ao59 t351.length co59 : Value).ownBlock ∧ some k_ ≠ (.slice Ao61 t355.length co61 : Value).ownBlock) v323 t322) := ⟨h1_⟩
      have n2_ : Aside0 (Kd.R (Kd.int .i64) 3 w66 w.heap.size (fun k_ => some k_ ≠ (v320 : Value).ownBlock ∧ some k_ ≠ (v323 : Value).ownBlock ∧ some k_ ≠ (v334 : Value).ownBlock ∧ some k_ ≠ (.slice Ao57 t345.length co57 : Value).ownBlock ∧ some k_ ≠ (.slice Ao58 t348.length co58 : Value).ownBlock ∧ some k_ ≠ (.slice Ao59 t351.length co59 : Value).ownBlock ∧ some k_ ≠ (.slice Ao61 t355.length co61 : Value).ownBlock) v326 t325) := ⟨h2_⟩
      have n3_ : Aside0 (Kd.R (Kd.int .i64) 3 w66 w.heap.size (fun k_ => some k_ ≠ (v320 : Value).ownBlock ∧ some k_ ≠ (v323 : Value).ownBlock ∧ some k_ ≠ (v326 : Value).ownBlock ∧ some k_ ≠ (.slice Ao57 t345.length co57 : Value).ownBlock ∧ some k_ ≠ (.slice Ao58 t348.length co58 : Value).ownBlock ∧ some k_ ≠ (.slice Ao59 t351.length co59 : Value).ownBlock ∧ some k_ ≠ (.slice Ao61 t355.length co61 : Value).ownBlock) v334 t333) := ⟨h3_⟩
      have n4_ : Aside0 (Kd.R (Kd.int .i64) 3 w66 w.heap.size (fun k_ => some k_ ≠ (v320 : Value).ownBlock ∧ some k_ ≠ (v323 : Value).ownBlock ∧ some k_ ≠ (v326 : Value).ownBlock ∧ some k_ ≠ (v334 : Value).ownBlock ∧ some k_ ≠ (.slice Ao58 t348.length co58 : Value).ownBlock ∧ some k_ ≠ (.slice Ao59 t351.length co59 : Value).ownBlock ∧ some k_ ≠ (.slice Ao61 t355.length co61 : Value).ownBlock) (.slice Ao57 t345.length co57) t345) := ⟨h4_⟩
      have n5_ : Aside0 (Kd.R (Kd.int .i64) 3 w66 w.heap.size (fun k_ => some k_ ≠ (v320 : Value).ownBlock ∧ some k_ ≠ (v323 : Value).ownBlock ∧ some k_ ≠ (v326 : Value).ownBlock ∧ some k_ ≠ (v334 : Value).ownBlock ∧ some k_ ≠ (.slice Ao57 t345.length co57 : Value).ownBlock ∧ some k_ ≠ (.slice Ao59 t351.length co59 : Value).ownBlock ∧ some k_ ≠ (.slice Ao61 t355.length co61 : Value).ownBlock) (.slice Ao58 t348.length co58) t348) := ⟨h5_⟩
      have n6_ : Aside0 (Kd.R (Kd.int .i64) 3 w66 w.heap.size (fun k_ => some k_ ≠ (v320 : Value).ownBlock ∧ some k_ ≠ (v323 : Value).ownBlock ∧ some k_ ≠ (v326 : Value).ownBlock ∧ some k_ ≠ (v334 : Value).ownBlock ∧ some k_ ≠ (.slice Ao57 t345.length co57 : Value).ownBlock ∧ some k_ ≠ (.slice Ao58 t348.length co58 : Value).ownBlock ∧ some k_ ≠ (.slice Ao61 t355.length co61 : Value).ownBlock) (.slice Ao59 t351.length co59) t351) := ⟨h6_⟩
      have n7_ : Aside0 (Kd.R (Kd.int .i64) 3 w66 w.heap.size (fun k_ => some k_ ≠ (v320 : Value).ownBlock ∧ some k_ ≠ (v323 : Value).ownBlock ∧ some k_ ≠ (v326 : Value).ownBlock ∧ some k_ ≠ (v334 : Value).ownBlock ∧ some k_ ≠ (.slice Ao57 t345.length co57 : Value).ownBlock ∧ some k_ ≠ (.slice Ao58 t348.length co58 : Value).ownBlock ∧ some k_ ≠ (.slice Ao59 t351.length co59 : Value).ownBlock) (.slice Ao61 t355.length co61) t355) := ⟨h7_⟩
      have n8_ : Aside0 (w66.heap[gb315]? = some (.cells #[.int .i64 a0_0, .slice A0_1 l0_1.length c0_1, .slice A0_2 l0_2.length c0_2, .slice A0_3 l0_3.length c0_3] 30 (0, 0))) := ⟨h8_⟩
      have n9_ : Aside0 (w66.heap[gb316]? = some (.cells #[.int .i64 a2_0, .int .i64 a2_1, .int .i64 a2_2, .int .i64 a2_3, .int .i64 a2_4] 50 (0, 0))) := ⟨h9_⟩
      have n10_ : Aside0 (w66.heap[gb343]? = some (.cells #[.int .i64 t336, .int .i64 t337, .int .i64 t338, .int .i64 t339, .int .i64 t340, .int .i64 t341] 83 (0, 0))) := ⟨h10_⟩
      have n11_ : Aside0 (w66.heap[gb354]? = some (.cells #[.int .i64 t344, .slice Ao57 t345.length co57, .slice Ao58 t348.length co58, .slice Ao59 t351.length co59] 33 (0, 0))) := ⟨h11_⟩
      have n12_ : Aside0 (w66.heap[gb370]? = some (.cells #[.int .i64 0, .int .i64 0, .int .i64 0, .int .i64 0, .int .i64 0, .int .i64 0] 83 (0, 0))) := ⟨h12_⟩
      have n13_ : Aside0 (w.heap.size ≤ gb370) := ⟨h13_⟩
      have n14_ : Aside0 (w.heap.size ≤ gb370) := ⟨h14_⟩
      have n15_ : Aside0 (gb315 ≠ gb370) := ⟨h15_⟩
      have n16_ : Aside0 (gb370 ≠ gb315) := ⟨h16_⟩
      have n17_ : Aside0 (gb316 ≠ gb370) := ⟨h17_⟩
      have n18_ : Aside0 (gb370 ≠ gb316) := ⟨h18_⟩
      have n19_ : Aside0 (gb343 ≠ gb370) := ⟨h19_⟩
      have n20_ : Aside0 (gb370 ≠ gb343) := ⟨h20_⟩
      have n21_ : Aside0 (gb354 ≠ gb370) := ⟨h21_⟩
      have n22_ : Aside0 (gb370 ≠ gb354) := ⟨h22_⟩
      have n23_ : Aside0 (Below w.heap.size w w66) := ⟨h23_⟩
      clear HO321
      clear HO324
      clear HO327
      clear HO335
      clear HO347
      clear HO350
      clear HO353
      clear HO357
      clear BK315
      clear BK316
      clear BK343
      clear BK354
      clear HB
      clear h0_ h1_ h2_ h3_ h4_ h5_ h6_ h7_ h8_ h9_ h10_ h11_ h12_ h13_ h14_ h15_ h16_ h17_ h18_ h19_ h20_ h21_ h22_ h23_
      have HO321 := n0_
      have HO324 := n1_
      have HO327 := n2_
      have HO335 := n3_
      have HO347 := n4_
      have HO350 := n5_
      have HO353 := n6_
      have HO357 := n7_
      have BK315 := n8_
      have BK316 := n9_
      have BK343 := n10_
      have BK354 := n11_
      have BK370 := n12_
      have GW370 := n13_
      have GE370 := n14_
      have NB315_370 := n15_
      have NB370_315 := n16_
      have NB316_370 := n17_
      have NB370_316 := n18_
      have NB343_370 := n19_
      have NB370_343 := n20_
      have NB354_370 := n21_
      have NB370_354 := n22_
      have HB := n23_
      clear n0_ n1_ n2_ n3_ n4_ n5_ n6_ n7_ n8_ n9_ n10_ n11_ n12_ n13_ n14_ n15_ n16_ n17_ n18_ n19_ n20_ n21_ n22_ n23_
      have hHeld : w66.cell? ⟨gb354, 0, none⟩ = some (.int .i64 t344) ∧ w66.cell? ⟨gb354, 1, none⟩ = some (.slice Ao57 t345.length co57) ∧ w66.cell? ⟨gb354, 2, none⟩ = some (.slice Ao58 t348.length co58) ∧ w66.cell? ⟨gb354, 3, none⟩ = some (.slice Ao59 t351.length co59) ∧ w66.cell? ⟨gb316, 0, none⟩ = some (.int .i64 a2_0) ∧ w66.cell? ⟨gb316, 1, none⟩ = some (.int .i64 a2_1) ∧ w66.cell? ⟨gb316, 2, none⟩ = some (.int .i64 a2_2) ∧ w66.cell? ⟨gb316, 3, none⟩ = some (.int .i64 a2_3) ∧ w66.cell? ⟨gb316, 4, none⟩ = some (.int .i64 a2_4) := hS_
      refine norm_ (a' := ?_) ?_ ?_
      rotate_left
      · simp only [putAll, Act.put, List.setIfInBounds_toArray, List.set_cons_zero, List.set_cons_succ]
        rfl
      refine one_ (i := 13) (N := none) #[true, true, true, true, true, true, true, true, true, true, true, true, true, true, false] rfl rfl (one_of HT_.out z14_38) (by decide) (fun K hK => ?_)
      have hs67 : w66.cell? ⟨gb370, 0, none⟩ = some (.int .i64 0) := (blk_cell BK370.out 0).trans rfl
      have hfs67 := blk_frozen BK370.out 0
      have hns67_0 := NB315_370.out
      have hns67_1 := NB316_370.out
      have hns67_2 := NB343_370.out
      have hns67_3 := NB354_370.out
      have hms67_0 := NB370_315.out
      have hms67_1 := NB370_316.out
      have hms67_2 := NB370_343.out
      have hms67_3 := NB370_354.out
      have hs68 : w66.cell? ⟨gb370, 1, none⟩ = some (.int .i64 0) := (blk_cell BK370.out 1).trans rfl
      have hfs68 := blk_frozen BK370.out 1
      have hns68_0 := NB315_370.out
      have hns68_1 := NB316_370.out
      have hns68_2 := NB343_370.out
      have hns68_3 := NB354_370.out
      have hms68_0 := NB370_315.out
      have hms68_1 := NB370_316.out
      have hms68_2 := NB370_343.out
      have hms68_3 := NB370_354.out
      have hs69 : w66.cell? ⟨gb370, 2, none⟩ = some (.int .i64 0) := (blk_cell BK370.out 2).trans rfl
      have hfs69 := blk_frozen BK370.out 2
      have hns69_0 := NB315_370.out
      have hns69_1 := NB316_370.out
      have hns69_2 := NB343_370.out
      have hns69_3 := NB354_370.out
      have hms69_0 := NB370_315.out
      have hms69_1 := NB370_316.out
      have hms69_2 := NB370_343.out
      have hms69_3 := NB370_354.out
      have hs70 : w66.cell? ⟨gb370, 3, none⟩ = some (.int .i64 0) := (blk_cell BK370.out 3).trans rfl
      have hfs70 := blk_frozen BK370.out 3
      have hns70_0 := NB315_370.out
      have hns70_1 := NB316_370.out
      have hns70_2 := NB343_370.out
      have hns70_3 := NB354_370.out
      have hms70_0 := NB370_315.out
      have hms70_1 := NB370_316.out
      have hms70_2 := NB370_343.out
      have hms70_3 := NB370_354.out
      have hs71 : w66.cell? ⟨gb370, 4, none⟩ = some (.int .i64 0) := (blk_cell BK370.out 4).trans rfl
      have hfs71 := blk_frozen BK370.out 4
      have hns71_0 := NB315_370.out
      have hns71_1 := NB316_370.out
      have hns71_2 := NB343_370.out
      have hns71_3 := NB354_370.out
      have hms71_0 := NB370_315.out
      have hms71_1 := NB370_316.out
      have hms71_2 := NB370_343.out
      have hms71_3 := NB370_354.out
      have hs72 : w66.cell? ⟨gb370, 5, none⟩ = some (.int .i64 0) := (blk_cell BK370.out 5).trans rfl
      have hfs72 := blk_frozen BK370.out 5
      have hns72_0 := NB315_370.out
      have hns72_1 := NB316_370.out
      have hns72_2 := NB343_370.out
      have hns72_3 := NB354_370.out
      have hms72_0 := NB370_315.out
      have hms72_1 := NB370_316.out
      have hms72_2 := NB370_343.out
      have hms72_3 := NB370_354.out
      refine skip_ (w1 := ?_) (by rfl) rfl ?_ ?_
      rotate_left
      · go_simp
        rfl
      refine hK.out _ _ ⟨((cell_far (p := ⟨gb370, _, none⟩) NB354_370.out _).trans (((cell_far (p := ⟨gb370, _, none⟩) NB354_370.out _).trans (((cell_far (p := ⟨gb370, _, none⟩) NB354_370.out _).trans (((cell_far (p := ⟨gb370, _, none⟩) NB354_370.out _).trans (((cell_far (p := ⟨gb370, _, none⟩) NB354_370.out _).trans (((cell_far (p := ⟨gb370, _, none⟩) NB354_370.out _).trans (hHeld.1)))))))))))), ((cell_far (p := ⟨gb370, _, none⟩) NB354_370.out _).trans (((cell_far (p := ⟨gb370, _, none⟩) NB354_370.out _).trans (((cell_far (p := ⟨gb370, _, none⟩) NB354_370.out _).trans (((cell_far (p := ⟨gb370, _, none⟩) NB354_370.out _).trans (((cell_far (p := ⟨gb370, _, none⟩) NB354_370.out _).trans (((cell_far (p := ⟨gb370, _, none⟩) NB354_370.out _).trans (hHeld.2.1)))))))))))), ((cell_far (p := ⟨gb370, _, none⟩) NB354_370.out _).trans (((cell_far (p := ⟨gb370, _, none⟩) NB354_370.out _).trans (((cell_far (p := ⟨gb370, _, none⟩) NB354_370.out _).trans (((cell_far (p := ⟨gb370, _, none⟩) NB354_370.out _).trans (((cell_far (p := ⟨gb370, _, none⟩) NB354_370.out _).trans (((cell_far (p := ⟨gb370, _, none⟩) NB354_370.out _).trans (hHeld.2.2.1)))))))))))), ((cell_far (p := ⟨gb370, _, none⟩) NB354_370.out _).trans (((cell_far (p := ⟨gb370, _, none⟩) NB354_370.out _).trans (((cell_far (p := ⟨gb370, _, none⟩) NB354_370.out _).trans (((cell_far (p := ⟨gb370, _, none⟩) NB354_370.out _).trans (((cell_far (p := ⟨gb370, _, none⟩) NB354_370.out _).trans (((cell_far (p := ⟨gb370, _, none⟩) NB354_370.out _).trans (hHeld.2.2.2.1)))))))))))), ((cell_far (p := ⟨gb370, _, none⟩) NB316_370.out _).trans (((cell_far (p := ⟨gb370, _, none⟩) NB316_370.out _).trans (((cell_far (p := ⟨gb370, _, none⟩) NB316_370.out _).trans (((cell_far (p := ⟨gb370, _, none⟩) NB316_370.out _).trans (((cell_far (p := ⟨gb370, _, none⟩) NB316_370.out _).trans (((cell_far (p := ⟨gb370, _, none⟩) NB316_370.out _).trans (hHeld.2.2.2.2.1)))))))))))), ((cell_far (p := ⟨gb370, _, none⟩) NB316_370.out _).trans (((cell_far (p := ⟨gb370, _, none⟩) NB316_370.out _).trans (((cell_far (p := ⟨gb370, _, none⟩) NB316_370.out _).trans (((cell_far (p := ⟨gb370, _, none⟩) NB316_370.out _).trans (((cell_far (p := ⟨gb370, _, none⟩) NB316_370.out _).trans (((cell_far (p := ⟨gb370, _, none⟩) NB316_370.out _).trans (hHeld.2.2.2.2.2.1)))))))))))), ((cell_far (p := ⟨gb370, _, none⟩) NB316_370.out _).trans (((cell_far (p := ⟨gb370, _, none⟩) NB316_370.out _).trans (((cell_far (p := ⟨gb370, _, none⟩) NB316_370.out _).trans (((cell_far (p := ⟨gb370, _, none⟩) NB316_370.out _).trans (((cell_far (p := ⟨gb370, _, none⟩) NB316_370.out _).trans (((cell_far (p := ⟨gb370, _, none⟩) NB316_370.out _).trans (hHeld.2.2.2.2.2.2.1)))))))))))), ((cell_far (p := ⟨gb370, _, none⟩) NB316_370.out _).trans (((cell_far (p := ⟨gb370, _, none⟩) NB316_370.out _).trans (((cell_far (p := ⟨gb370, _, none⟩) NB316_370.out _).trans (((cell_far (p := ⟨gb370, _, none⟩) NB316_370.out _).trans (((cell_far (p := ⟨gb370, _, none⟩) NB316_370.out _).trans (((cell_far (p := ⟨gb370, _, none⟩) NB316_370.out _).trans (hHeld.2.2.2.2.2.2.2.1)))))))))))), ((cell_far (p := ⟨gb370, _, none⟩) NB316_370.out _).trans (((cell_far (p := ⟨gb370, _, none⟩) NB316_370.out _).trans (((cell_far (p := ⟨gb370, _, none⟩) NB316_370.out _).trans (((cell_far (p := ⟨gb370, _, none⟩) NB316_370.out _).trans (((cell_far (p := ⟨gb370, _, none⟩) NB316_370.out _).trans (((cell_far (p := ⟨gb370, _, none⟩) NB316_370.out _).trans (hHeld.2.2.2.2.2.2.2.2))))))))))))⟩ (fun hHeld => ?_)
      clear hK K
      refine pure_ (i := 14) (N := some 21) (v := ?_) (a' := ?_) #[true, true, true, true, true, true, true, true, true, true, true, true, true, true, true] rfl rfl (any_of HT_.out z14_38) (fun _ _ _ h => h) (Or.inl ⟨by rfl, ?_⟩) ?_ ?_
      rotate_left
      · intro w'
        go_simp
        with_reducible rfl
      rotate_left
      · simp only [Act.put, List.setIfInBounds_toArray, List.set_cons_zero, List.set_cons_succ, i64_w, i32_w]
        rfl
      refine done_ (done_of HT_.out z14_38) ?_
      go_upto_region 11 with (fail)
      go_cut [68] (fun v68 wc => ∃ (kq : Nat) (x68_25 : Bool), v68 = .bool x68_25 ∧ Aside0 (laws_FnExactHealthFact.j0 kq l3 t355 x68_25 a0_0 l0_1 l0_2 l0_3 t344 t345 t348 t351 = some r) ∧ Aside0 (kq ≤ k) ∧ Aside0 (Kd.R (Kd.int .i64) 3 wc w.heap.size (fun k_ => some k_ ≠ ((.slice Ao57 t345.length co57) : Value).ownBlock ∧ some k_ ≠ ((.slice Ao58 t348.length co58) : Value).ownBlock ∧ some k_ ≠ ((.slice Ao59 t351.length co59) : Value).ownBlock) (.slice Ao61 t355.length co61) t355) ∧ Aside0 (Kd.R (Kd.int .i64) 3 wc w.heap.size (fun k_ => some k_ ≠ ((.slice Ao61 t355.length co61) : Value).ownBlock ∧ some k_ ≠ ((.slice Ao58 t348.length co58) : Value).ownBlock ∧ some k_ ≠ ((.slice Ao59 t351.length co59) : Value).ownBlock) (.slice Ao57 t345.length co57) t345) ∧ Aside0 (Kd.R (Kd.int .i64) 3 wc w.heap.size (fun k_ => some k_ ≠ ((.slice Ao61 t355.length co61) : Value).ownBlock ∧ some k_ ≠ ((.slice Ao57 t345.length co57) : Value).ownBlock ∧ some k_ ≠ ((.slice Ao59 t351.length co59) : Value).ownBlock) (.slice Ao58 t348.length co58) t348) ∧ Aside0 (Kd.R (Kd.int .i64) 3 wc w.heap.size (fun k_ => some k_ ≠ ((.slice Ao61 t355.length co61) : Value).ownBlock ∧ some k_ ≠ ((.slice Ao57 t345.length co57) : Value).ownBlock ∧ some k_ ≠ ((.slice Ao58 t348.length co58) : Value).ownBlock) (.slice Ao59 t351.length co59) t351) ∧ Aside0 (wc.heap[gb315]? = some (.cells #[.int .i64 a0_0, (.slice A0_1 l0_1.length c0_1), (.slice A0_2 l0_2.length c0_2), (.slice A0_3 l0_3.length c0_3)] 30 (0, 0))) ∧ Aside0 (wc.heap[gb316]? = some (.cells #[.int .i64 a2_0, .int .i64 a2_1, .int .i64 a2_2, .int .i64 a2_3, .int .i64 a2_4] 50 (0, 0))) ∧ Aside0 (wc.heap[gb343]? = some (.cells #[.int .i64 t336, .int .i64 t337, .int .i64 t338, .int .i64 t339, .int .i64 t340, .int .i64 t341] 83 (0, 0))) ∧ Aside0 (wc.heap[gb354]? = some (.cells #[.int .i64 t344, (.slice Ao57 t345.length co57), (.slice Ao58 t348.length co58), (.slice Ao59 t351.length co59)] 33 (0, 0))) ∧ Aside0 (wc.heap[gb370]? = some (.cells #[.int .i64 t363, .int .i64 t364, .int .i64 t365, .int .i64 t366, .int .i64 t367, .int .i64 t368] 83 (0, 0))) ∧ Aside0 (Below w.heap.size w wc))
      case first =>
        have H := HC26.out
        clear HC26
        replace H := Option.bind_eq_some_iff.mp H
        obtain ⟨t371, A730, H⟩ := H
        replace H : (if t371 = true then (laws_FnExactHealthFact.j0 k l3 t355 (t369 != t342) a0_0 l0_1 l0_2 l0_3 t344 t345 t348 t351) else (laws_FnExactHealthFact.j0 k l3 t355 true a0_0 l0_1 l0_2 l0_3 t344 t345 t348 t351)) = some r := H
        have A73 := Aside0.mk A730
        clear A730
        by_cases c74 : t371 = true
        · subst c74
          have H1 : (laws_FnExactHealthFact.j0 k l3 t355 (t369 != t342) a0_0 l0_1 l0_2 l0_3 t344 t345 t348 t351) = some r := by rw [if_pos rfl] at H; exact H
          clear H
          have H := H1
          clear H1
          have H' := Aside0.mk H
          clear H
          have hnb75 := NB370_315.out
          have hnc75 := NB315_370.out
          have hnb76 := NB370_316.out
          have hnc76 := NB316_370.out
          have hnb77 := NB370_343.out
          have hnc77 := NB343_370.out
          have hnb78 := NB370_354.out
          have hnc78 := NB354_370.out
          have hcz79_0 : w66.cell? ⟨gb370, 0, none⟩ = some (.int .i64 0) := (blk_cell BK370.out 0).trans rfl
          have hcz79_1 : w66.cell? ⟨gb370, 1, none⟩ = some (.int .i64 0) := (blk_cell BK370.out 1).trans rfl
          have hcz79_2 : w66.cell? ⟨gb370, 2, none⟩ = some (.int .i64 0) := (blk_cell BK370.out 2).trans rfl
          have hcz79_3 : w66.cell? ⟨gb370, 3, none⟩ = some (.int .i64 0) := (blk_cell BK370.out 3).trans rfl
          have hcz79_4 : w66.cell? ⟨gb370, 4, none⟩ = some (.int .i64 0) := (blk_cell BK370.out 4).trans rfl
          have hcz79_5 : w66.cell? ⟨gb370, 5, none⟩ = some (.int .i64 0) := (blk_cell BK370.out 5).trans rfl
          have hfz79_0 := blk_frozen BK370.out 0
          have hfz79_1 := blk_frozen BK370.out 1
          have hfz79_2 := blk_frozen BK370.out 2
          have hfz79_3 := blk_frozen BK370.out 3
          have hfz79_4 := blk_frozen BK370.out 4
          have hfz79_5 := blk_frozen BK370.out 5
          have hnb80 := NB343_315.out
          have hnc80 := NB315_343.out
          have hnb81 := NB343_316.out
          have hnc81 := NB316_343.out
          have hnb82 := NB343_354.out
          have hnc82 := NB354_343.out
          have hcz83_0 : w66.cell? ⟨gb343, 0, none⟩ = some (.int .i64 t336) := (blk_cell BK343.out 0).trans rfl
          have hcz83_1 : w66.cell? ⟨gb343, 1, none⟩ = some (.int .i64 t337) := (blk_cell BK343.out 1).trans rfl
          have hcz83_2 : w66.cell? ⟨gb343, 2, none⟩ = some (.int .i64 t338) := (blk_cell BK343.out 2).trans rfl
          have hcz83_3 : w66.cell? ⟨gb343, 3, none⟩ = some (.int .i64 t339) := (blk_cell BK343.out 3).trans rfl
          have hcz83_4 : w66.cell? ⟨gb343, 4, none⟩ = some (.int .i64 t340) := (blk_cell BK343.out 4).trans rfl
          have hcz83_5 : w66.cell? ⟨gb343, 5, none⟩ = some (.int .i64 t341) := (blk_cell BK343.out 5).trans rfl
          have hfz83_0 := blk_frozen BK343.out 0
          have hfz83_1 := blk_frozen BK343.out 1
          have hfz83_2 := blk_frozen BK343.out 2
          have hfz83_3 := blk_frozen BK343.out 3
          have hfz83_4 := blk_frozen BK343.out 4
          have hfz83_5 := blk_frozen BK343.out 5
          go_wp2_with (first | ((with_reducible refine gate_callee (f := 65) rfl ?_); refine goesL_ (some 62) rfl rfl Try.func65 z14_38 rfl #[.agg #[.int .i64 t363, .int .i64 t364, .int .i64 t365, .int .i64 t366, .int .i64 t367, .int .i64 t368], .agg #[.int .i64 t336, .int .i64 t337, .int .i64 t338, .int .i64 t339, .int .i64 t340, .int .i64 t341]] rfl z14_4 ?_; (with_reducible refine (laws_eqFact.calls t363 t364 t365 t366 t367 t368 t336 t337 t338 t339 t340 t341 true _ A73.out).mono ?_); rintro e w84 ⟨rfl, hb⟩; refine ⟨_, rfl, ?_⟩; have n0_ := Aside0.mk (Kd.R_below z14_28 hb); have n1_ := Aside0.mk (Kd.R_below z14_27 hb); have n2_ := Aside0.mk (Kd.R_below z14_26 hb); have n3_ := Aside0.mk (Kd.R_below z14_25 hb); have n4_ := Aside0.mk (Kd.R_below z14_24 hb); have n5_ := Aside0.mk (Kd.R_below z14_23 hb); have n6_ := Aside0.mk (Kd.R_below z14_22 hb); have n7_ := Aside0.mk (Kd.R_below z14_21 hb); have n8_ := Aside0.mk (blk_below (g := gb315) (o := .cells #[.int .i64 a0_0, .slice A0_1 l0_1.length c0_1, .slice A0_2 l0_2.length c0_2, .slice A0_3 l0_3.length c0_3] 30 (0, 0)) z14_20 hb); have n9_ := Aside0.mk (blk_below (g := gb316) (o := .cells #[.int .i64 a2_0, .int .i64 a2_1, .int .i64 a2_2, .int .i64 a2_3, .int .i64 a2_4] 50 (0, 0)) z14_19 hb); have n10_ := Aside0.mk (blk_below (g := gb343) (o := .cells #[.int .i64 t336, .int .i64 t337, .int .i64 t338, .int .i64 t339, .int .i64 t340, .int .i64 t341] 83 (0, 0)) z14_18 hb); have n11_ := Aside0.mk (blk_below (g := gb354) (o := .cells #[.int .i64 t344, .slice Ao57 t345.length co57, .slice Ao58 t348.length co58, .slice Ao59 t351.length co59] 33 (0, 0)) z14_17 hb); have n12_ := Aside0.mk (blk_below (g := gb370) (o := .cells #[.int .i64 t363, .int .i64 t364, .int .i64 t365, .int .i64 t366, .int .i64 t367, .int .i64 t368] 83 (0, 0)) z14_12 hb); have n13_ := Aside0.mk (below_step z14_2 hb); clear HO321; clear HO324; clear HO327; clear HO335; clear HO347; clear HO350; clear HO353; clear HO357; clear BK315; clear BK316; clear BK343; clear BK354; clear BK370; clear HB; have HO321 := n0_; have HO324 := n1_; have HO327 := n2_; have HO335 := n3_; have HO347 := n4_; have HO350 := n5_; have HO353 := n6_; have HO357 := n7_; have BK315 := n8_; have BK316 := n9_; have BK343 := n10_; have BK354 := n11_; have BK370 := n12_; have HB := n13_; clear n0_ n1_ n2_ n3_ n4_ n5_ n6_ n7_ n8_ n9_ n10_ n11_ n12_ n13_; (try clear hb); (try clear hb2); (try clear hk); (try clear hi)))
          go_meet
          case rel => exact ⟨_, ((t369 != t342)), (by first | rfl | (simp; done) | (simp [*]; done)), H', ⟨by first | omega | exact Nat.le_refl _⟩, ⟨by (with_reducible repeat (first | apply Kd.R_alloc | apply Kd.R_drewN | apply Kd.R_drew)); exact Kd.R_mono HO357.out (fun _ hk => ⟨hk.2.2.2.2.1, ⟨hk.2.2.2.2.2.1, hk.2.2.2.2.2.2⟩⟩)⟩, ⟨by (with_reducible repeat (first | apply Kd.R_alloc | apply Kd.R_drewN | apply Kd.R_drew)); exact Kd.R_mono HO347.out (fun _ hk => ⟨hk.2.2.2.2.2.2, ⟨hk.2.2.2.2.1, hk.2.2.2.2.2.1⟩⟩)⟩, ⟨by (with_reducible repeat (first | apply Kd.R_alloc | apply Kd.R_drewN | apply Kd.R_drew)); exact Kd.R_mono HO350.out (fun _ hk => ⟨hk.2.2.2.2.2.2, ⟨hk.2.2.2.2.1, hk.2.2.2.2.2.1⟩⟩)⟩, ⟨by (with_reducible repeat (first | apply Kd.R_alloc | apply Kd.R_drewN | apply Kd.R_drew)); exact Kd.R_mono HO353.out (fun _ hk => ⟨hk.2.2.2.2.2.2, ⟨hk.2.2.2.2.1, hk.2.2.2.2.2.1⟩⟩)⟩, ⟨by (with_reducible repeat (first | refine blk_drewN ?_ _ | refine blk_drew ?_ | refine blk_alloc ?_ _)); exact BK315.out⟩, ⟨by (with_reducible repeat (first | refine blk_drewN ?_ _ | refine blk_drew ?_ | refine blk_alloc ?_ _)); exact BK316.out⟩, ⟨by (with_reducible repeat (first | refine blk_drewN ?_ _ | refine blk_drew ?_ | refine blk_alloc ?_ _)); exact BK343.out⟩, ⟨by (with_reducible repeat (first | refine blk_drewN ?_ _ | refine blk_drew ?_ | refine blk_alloc ?_ _)); exact BK354.out⟩, ⟨by (with_reducible repeat (first | refine blk_drewN ?_ _ | refine blk_drew ?_ | refine blk_alloc ?_ _)); exact BK370.out⟩, ⟨by repeat (first | (with_reducible first | exact HB.out | apply below_alloc | apply pw_below_drewN | apply below_drew1 | refine below_set ?_ GE315.out | refine below_set ?_ GE316.out | refine below_set ?_ GE343.out | refine below_set ?_ GE354.out | refine below_set ?_ GE370.out) | exact HB.out)⟩⟩
        · replace c74 := Bool.eq_false_iff.mpr c74
          subst c74
          have H1 : (laws_FnExactHealthFact.j0 k l3 t355 true a0_0 l0_1 l0_2 l0_3 t344 t345 t348 t351) = some r := by rw [if_neg (show ¬ (false = true) by decide)] at H; exact H
          clear H
          have H := H1
          clear H1
          have H' := Aside0.mk H
          clear H
          have hnb85 := NB370_315.out
          have hnc85 := NB315_370.out
          have hnb86 := NB370_316.out
          have hnc86 := NB316_370.out
          have hnb87 := NB370_343.out
          have hnc87 := NB343_370.out
          have hnb88 := NB370_354.out
          have hnc88 := NB354_370.out
          have hcz89_0 : w66.cell? ⟨gb370, 0, none⟩ = some (.int .i64 0) := (blk_cell BK370.out 0).trans rfl
          have hcz89_1 : w66.cell? ⟨gb370, 1, none⟩ = some (.int .i64 0) := (blk_cell BK370.out 1).trans rfl
          have hcz89_2 : w66.cell? ⟨gb370, 2, none⟩ = some (.int .i64 0) := (blk_cell BK370.out 2).trans rfl
          have hcz89_3 : w66.cell? ⟨gb370, 3, none⟩ = some (.int .i64 0) := (blk_cell BK370.out 3).trans rfl
          have hcz89_4 : w66.cell? ⟨gb370, 4, none⟩ = some (.int .i64 0) := (blk_cell BK370.out 4).trans rfl
          have hcz89_5 : w66.cell? ⟨gb370, 5, none⟩ = some (.int .i64 0) := (blk_cell BK370.out 5).trans rfl
          have hfz89_0 := blk_frozen BK370.out 0
          have hfz89_1 := blk_frozen BK370.out 1
          have hfz89_2 := blk_frozen BK370.out 2
          have hfz89_3 := blk_frozen BK370.out 3
          have hfz89_4 := blk_frozen BK370.out 4
          have hfz89_5 := blk_frozen BK370.out 5
          have hnb90 := NB343_315.out
          have hnc90 := NB315_343.out
          have hnb91 := NB343_316.out
          have hnc91 := NB316_343.out
          have hnb92 := NB343_354.out
          have hnc92 := NB354_343.out
          have hcz93_0 : w66.cell? ⟨gb343, 0, none⟩ = some (.int .i64 t336) := (blk_cell BK343.out 0).trans rfl
          have hcz93_1 : w66.cell? ⟨gb343, 1, none⟩ = some (.int .i64 t337) := (blk_cell BK343.out 1).trans rfl
          have hcz93_2 : w66.cell? ⟨gb343, 2, none⟩ = some (.int .i64 t338) := (blk_cell BK343.out 2).trans rfl
          have hcz93_3 : w66.cell? ⟨gb343, 3, none⟩ = some (.int .i64 t339) := (blk_cell BK343.out 3).trans rfl
          have hcz93_4 : w66.cell? ⟨gb343, 4, none⟩ = some (.int .i64 t340) := (blk_cell BK343.out 4).trans rfl
          have hcz93_5 : w66.cell? ⟨gb343, 5, none⟩ = some (.int .i64 t341) := (blk_cell BK343.out 5).trans rfl
          have hfz93_0 := blk_frozen BK343.out 0
          have hfz93_1 := blk_frozen BK343.out 1
          have hfz93_2 := blk_frozen BK343.out 2
          have hfz93_3 := blk_frozen BK343.out 3
          have hfz93_4 := blk_frozen BK343.out 4
          have hfz93_5 := blk_frozen BK343.out 5
          go_wp2_with (first | ((with_reducible refine gate_callee (f := 65) rfl ?_); refine goesL_ (some 62) rfl rfl Try.func65 z14_38 rfl #[.agg #[.int .i64 t363, .int .i64 t364, .int .i64 t365, .int .i64 t366, .int .i64 t367, .int .i64 t368], .agg #[.int .i64 t336, .int .i64 t337, .int .i64 t338, .int .i64 t339, .int .i64 t340, .int .i64 t341]] rfl z14_4 ?_; (with_reducible refine (laws_eqFact.calls t363 t364 t365 t366 t367 t368 t336 t337 t338 t339 t340 t341 false _ A73.out).mono ?_); rintro e w94 ⟨rfl, hb⟩; refine ⟨_, rfl, ?_⟩; have n0_ := Aside0.mk (Kd.R_below z14_28 hb); have n1_ := Aside0.mk (Kd.R_below z14_27 hb); have n2_ := Aside0.mk (Kd.R_below z14_26 hb); have n3_ := Aside0.mk (Kd.R_below z14_25 hb); have n4_ := Aside0.mk (Kd.R_below z14_24 hb); have n5_ := Aside0.mk (Kd.R_below z14_23 hb); have n6_ := Aside0.mk (Kd.R_below z14_22 hb); have n7_ := Aside0.mk (Kd.R_below z14_21 hb); have n8_ := Aside0.mk (blk_below (g := gb315) (o := .cells #[.int .i64 a0_0, .slice A0_1 l0_1.length c0_1, .slice A0_2 l0_2.length c0_2, .slice A0_3 l0_3.length c0_3] 30 (0, 0)) z14_20 hb); have n9_ := Aside0.mk (blk_below (g := gb316) (o := .cells #[.int .i64 a2_0, .int .i64 a2_1, .int .i64 a2_2, .int .i64 a2_3, .int .i64 a2_4] 50 (0, 0)) z14_19 hb); have n10_ := Aside0.mk (blk_below (g := gb343) (o := .cells #[.int .i64 t336, .int .i64 t337, .int .i64 t338, .int .i64 t339, .int .i64 t340, .int .i64 t341] 83 (0, 0)) z14_18 hb); have n11_ := Aside0.mk (blk_below (g := gb354) (o := .cells #[.int .i64 t344, .slice Ao57 t345.length co57, .slice Ao58 t348.length co58, .slice Ao59 t351.length co59] 33 (0, 0)) z14_17 hb); have n12_ := Aside0.mk (blk_below (g := gb370) (o := .cells #[.int .i64 t363, .int .i64 t364, .int .i64 t365, .int .i64 t366, .int .i64 t367, .int .i64 t368] 83 (0, 0)) z14_12 hb); have n13_ := Aside0.mk (below_step z14_2 hb); clear HO321; clear HO324; clear HO327; clear HO335; clear HO347; clear HO350; clear HO353; clear HO357; clear BK315; clear BK316; clear BK343; clear BK354; clear BK370; clear HB; have HO321 := n0_; have HO324 := n1_; have HO327 := n2_; have HO335 := n3_; have HO347 := n4_; have HO350 := n5_; have HO353 := n6_; have HO357 := n7_; have BK315 := n8_; have BK316 := n9_; have BK343 := n10_; have BK354 := n11_; have BK370 := n12_; have HB := n13_; clear n0_ n1_ n2_ n3_ n4_ n5_ n6_ n7_ n8_ n9_ n10_ n11_ n12_ n13_; (try clear hb); (try clear hb2); (try clear hk); (try clear hi)))
          go_meet
          case rel => exact ⟨_, (true), (by first | rfl | (simp; done) | (simp [*]; done)), H', ⟨by first | omega | exact Nat.le_refl _⟩, ⟨by (with_reducible repeat (first | apply Kd.R_alloc | apply Kd.R_drewN | apply Kd.R_drew)); exact Kd.R_mono HO357.out (fun _ hk => ⟨hk.2.2.2.2.1, ⟨hk.2.2.2.2.2.1, hk.2.2.2.2.2.2⟩⟩)⟩, ⟨by (with_reducible repeat (first | apply Kd.R_alloc | apply Kd.R_drewN | apply Kd.R_drew)); exact Kd.R_mono HO347.out (fun _ hk => ⟨hk.2.2.2.2.2.2, ⟨hk.2.2.2.2.1, hk.2.2.2.2.2.1⟩⟩)⟩, ⟨by (with_reducible repeat (first | apply Kd.R_alloc | apply Kd.R_drewN | apply Kd.R_drew)); exact Kd.R_mono HO350.out (fun _ hk => ⟨hk.2.2.2.2.2.2, ⟨hk.2.2.2.2.1, hk.2.2.2.2.2.1⟩⟩)⟩, ⟨by (with_reducible repeat (first | apply Kd.R_alloc | apply Kd.R_drewN | apply Kd.R_drew)); exact Kd.R_mono HO353.out (fun _ hk => ⟨hk.2.2.2.2.2.2, ⟨hk.2.2.2.2.1, hk.2.2.2.2.2.1⟩⟩)⟩, ⟨by (with_reducible repeat (first | refine blk_drewN ?_ _ | refine blk_drew ?_ | refine blk_alloc ?_ _)); exact BK315.out⟩, ⟨by (with_reducible repeat (first | refine blk_drewN ?_ _ | refine blk_drew ?_ | refine blk_alloc ?_ _)); exact BK316.out⟩, ⟨by (with_reducible repeat (first | refine blk_drewN ?_ _ | refine blk_drew ?_ | refine blk_alloc ?_ _)); exact BK343.out⟩, ⟨by (with_reducible repeat (first | refine blk_drewN ?_ _ | refine blk_drew ?_ | refine blk_alloc ?_ _)); exact BK354.out⟩, ⟨by (with_reducible repeat (first | refine blk_drewN ?_ _ | refine blk_drew ?_ | refine blk_alloc ?_ _)); exact BK370.out⟩, ⟨by repeat (first | (with_reducible first | exact HB.out | apply below_alloc | apply pw_below_drewN | apply below_drew1 | refine below_set ?_ GE315.out | refine below_set ?_ GE316.out | refine below_set ?_ GE343.out | refine below_set ?_ GE354.out | refine below_set ?_ GE370.out) | exact HB.out)⟩⟩
      case rest =>
        clear HC26
        try clear p2
        try clear c3
        try clear c6
        try clear c7
        try clear c8
        try clear c9
        try clear c37
        try clear c62
        try clear c65
        try clear c74
        try clear c75
        try clear c76
        try clear c77
        try clear c78
        try clear c80
        try clear c81
        try clear c82
        try clear c85
        try clear c86
        try clear c87
        try clear c88
        try clear c90
        try clear c91
        try clear c92
        try clear hcz79_0
        try clear hcz79_1
        try clear hcz79_2
        try clear hcz79_3
        try clear hcz79_4
        try clear hcz79_5
        try clear hcz83_0
        try clear hcz83_1
        try clear hcz83_2
        try clear hcz83_3
        try clear hcz83_4
        try clear hcz83_5
        try clear hcz89_0
        try clear hcz89_1
        try clear hcz89_2
        try clear hcz89_3
        try clear hcz89_4
        try clear hcz89_5
        try clear hcz93_0
        try clear hcz93_1
        try clear hcz93_2
        try clear hcz93_3
        try clear hcz93_4
        try clear hcz93_5
        try clear hfz79_0
        try clear hfz79_1
        try clear hfz79_2
        try clear hfz79_3
        try clear hfz79_4
        try clear hfz79_5
        try clear hfz83_0
        try clear hfz83_1
        try clear hfz83_2
        try clear hfz83_3
        try clear hfz83_4
        try clear hfz83_5
        try clear hfz89_0
        try clear hfz89_1
        try clear hfz89_2
        try clear hfz89_3
        try clear hfz89_4
        try clear hfz89_5
        try clear hfz93_0
        try clear hfz93_1
        try clear hfz93_2
        try clear hfz93_3
        try clear hfz93_4
        try clear hfz93_5
        obtain ⟨kq, x68_25, rfl, HA, HJ25, HO_19, HO_355001, HO_355002, HO_355003, BK315, BK316, BK343, BK354, BK370, HB⟩ := hcut
        cases kq with
        | zero => exact absurd HA.out (by simp [laws_FnExactHealthFact.j0])
        | succ kj25 =>
          have H := HA.out
          clear HA
          simp only [laws_FnExactHealthFact.j0] at H
          by_cases c95 : x68_25 = true
          · subst c95
            have H1 : (some false) = some r := by rw [if_pos rfl] at H; exact H
            clear H
            have H := H1
            clear H1
            exact absurd ((Option.some.inj H).trans hr_.out) (by decide)
          · replace c95 := Bool.eq_false_iff.mpr c95
            subst c95
            have H1 : ((laws_toAllowed.f kj25 a0_0 l0_1 l0_2 l0_3).bind fun bt372 => ((laws_eqAllowed.f kj25 t344 t345 t348 t351 bt372.1 bt372.2.1 bt372.2.2.1 bt372.2.2.2).bind fun t382 => (if t382 = true then ((laws_toIntS.f kj25 l3).bind fun t383 => ((laws_eqIntS.f kj25 t355 t383).bind fun t386 => (if t386 = true then (some true) else (some false)))) else (some false)))) = some r := by rw [if_neg (show ¬ (false = true) by decide)] at H; exact H
            clear H
            have H := H1
            clear H1
            replace H := Option.bind_eq_some_iff.mp H
            obtain ⟨⟨t372, t373, t376, t379⟩, A960, H⟩ := H
            replace H : ((laws_eqAllowed.f kj25 t344 t345 t348 t351 t372 t373 t376 t379).bind fun t382 => (if t382 = true then ((laws_toIntS.f kj25 l3).bind fun t383 => ((laws_eqIntS.f kj25 t355 t383).bind fun t386 => (if t386 = true then (some true) else (some false)))) else (some false))) = some r := H
            have A96 := Aside0.mk A960
            clear A960
            replace H := Option.bind_eq_some_iff.mp H
            obtain ⟨t382, A970, H⟩ := H
            replace H : (if t382 = true then ((laws_toIntS.f kj25 l3).bind fun t383 => ((laws_eqIntS.f kj25 t355 t383).bind fun t386 => (if t386 = true then (some true) else (some false)))) else (some false)) = some r := H
            have A97 := Aside0.mk A970
            clear A970
            by_cases c98 : t382 = true
            · subst c98
              have H1 : ((laws_toIntS.f kj25 l3).bind fun t383 => ((laws_eqIntS.f kj25 t355 t383).bind fun t386 => (if t386 = true then (some true) else (some false)))) = some r := by rw [if_pos rfl] at H; exact H
              clear H
              have H := H1
              clear H1
              replace H := Option.bind_eq_some_iff.mp H
              obtain ⟨t383, A990, H⟩ := H
              replace H : ((laws_eqIntS.f kj25 t355 t383).bind fun t386 => (if t386 = true then (some true) else (some false))) = some r := H
              have A99 := Aside0.mk A990
              clear A990
              replace H := Option.bind_eq_some_iff.mp H
              obtain ⟨t386, A1000, H⟩ := H
              replace H : (if t386 = true then (some true) else (some false)) = some r := H
              have A100 := Aside0.mk A1000
              clear A1000
              by_cases c101 : t386 = true
              · subst c101
                have H1 : (some true) = some r := by rw [if_pos rfl] at H; exact H
                clear H
                have H := H1
                clear H1
                obtain rfl := Option.some.inj H
                try go_wp2
                have n0_ := Aside0.mk (Kd.R_drew HO_19.out)
                have n1_ := Aside0.mk (Kd.R_drew HO_355001.out)
                have n2_ := Aside0.mk (Kd.R_drew HO_355002.out)
                have n3_ := Aside0.mk (Kd.R_drew HO_355003.out)
                have n4_ := Aside0.mk (blk_drew BK315.out)
                have n5_ := Aside0.mk (blk_drew BK316.out)
                have n6_ := Aside0.mk (blk_drew BK343.out)
                have n7_ := Aside0.mk (blk_drew BK354.out)
                have n8_ := Aside0.mk (blk_drew BK370.out)
                have n9_ := Aside0.mk (below_drew1 HB.out)
                clear HO_19
                clear HO_355001
                clear HO_355002
                clear HO_355003
                clear BK315
                clear BK316
                clear BK343
                clear BK354
                clear BK370
                clear HB
                have HO_19 := n0_
                have HO_355001 := n1_
                have HO_355002 := n2_
                have HO_355003 := n3_
                have BK315 := n4_
                have BK316 := n5_
                have BK343 := n6_
                have BK354 := n7_
                have BK370 := n8_
                have HB := n9_
                clear n0_ n1_ n2_ n3_ n4_ n5_ n6_ n7_ n8_ n9_
                refine start_ (n := 5) (S := fun w' => w'.cell? ⟨gb354, 0, none⟩ = some (.int .i64 t344) ∧ w'.cell? ⟨gb354, 1, none⟩ = some (.slice Ao57 t345.length co57) ∧ w'.cell? ⟨gb354, 2, none⟩ = some (.slice Ao58 t348.length co58) ∧ w'.cell? ⟨gb354, 3, none⟩ = some (.slice Ao59 t351.length co59) ∧ w'.cell? ⟨gb315, 0, none⟩ = some (.int .i64 a0_0) ∧ w'.cell? ⟨gb315, 1, none⟩ = some (.slice A0_1 l0_1.length c0_1) ∧ w'.cell? ⟨gb315, 2, none⟩ = some (.slice A0_2 l0_2.length c0_2) ∧ w'.cell? ⟨gb315, 3, none⟩ = some (.slice A0_3 l0_3.length c0_3)) (ds := []) #[false, false, false, false, false] z14_38 rfl rfl ⟨(blk_cell BK354.out 0).trans rfl, (blk_cell BK354.out 1).trans rfl, (blk_cell BK354.out 2).trans rfl, (blk_cell BK354.out 3).trans rfl, (blk_cell BK315.out 0).trans rfl, (blk_cell BK315.out 1).trans rfl, (blk_cell BK315.out 2).trans rfl, (blk_cell BK315.out 3).trans rfl⟩ (fun hHeld => ?_)
                generalize wc.drew = w102 at HO_19 HO_355001 HO_355002 HO_355003 BK315 BK316 BK343 BK354 BK370 HB hHeld ⊢
                refine take_ (i := 0) (N := some 69) (v := ?_) (a' := ?_) #[true, false, false, false, false] rfl rfl z14_38 (fun _ _ _ h => h) (Or.inl ⟨by rfl, ?_⟩) hHeld ?_ ?_
                rotate_left
                · rintro w' ⟨s0, s1, s2, s3, s4, s5, s6, s7⟩
                  go_simp
                  with_reducible rfl
                rotate_left
                · simp only [Act.put, List.setIfInBounds_toArray, List.set_cons_zero, List.set_cons_succ, i64_w, i32_w]
                  rfl
                refine take_ (i := 1) (N := some 70) (v := ?_) (a' := ?_) #[true, true, false, false, false] rfl rfl z14_38 (fun _ _ _ h => h) (Or.inl ⟨by rfl, ?_⟩) hHeld ?_ ?_
                rotate_left
                · rintro w' ⟨s0, s1, s2, s3, s4, s5, s6, s7⟩
                  go_simp
                  with_reducible rfl
                rotate_left
                · simp only [Act.put, List.setIfInBounds_toArray, List.set_cons_zero, List.set_cons_succ, i64_w, i32_w]
                  rfl
                refine one_ (i := 2) (N := some 71) #[true, true, true, false, false] rfl rfl z14_38 (by decide) (fun K hK => ?_)
                refine goes_ Try.func22 z14_38 rfl #[.agg #[.int .i64 a0_0, .slice A0_1 l0_1.length c0_1, .slice A0_2 l0_2.length c0_2, .slice A0_3 l0_3.length c0_3]] (by rfl) rfl rfl z14_4 ?_
                with_reducible refine (laws_toAllowed.calls kj25 a0_0 _ _ l0_1 _ _ l0_2 _ _ l0_3 t372 t373 t376 t379 _ ?side1 ?side2 ?side3 ?side4 ?side5 ?side6 A96.out).mono ?_
                (case side1 => repeat (first | exact (Kd.C_below HR0_1.out HB.out) | (with_reducible refine Kd.C_alloc ?_ _) | (with_reducible refine Kd.C_drewN ?_ _) | (with_reducible refine Kd.C_drew ?_)))
                (case side2 => exact HC0_1.out)
                (case side3 => repeat (first | exact (Kd.C_below HR0_2.out HB.out) | (with_reducible refine Kd.C_alloc ?_ _) | (with_reducible refine Kd.C_drewN ?_ _) | (with_reducible refine Kd.C_drew ?_)))
                (case side4 => exact HC0_2.out)
                (case side5 => repeat (first | exact (Kd.C_below HR0_3.out HB.out) | (with_reducible refine Kd.C_alloc ?_ _) | (with_reducible refine Kd.C_drewN ?_ _) | (with_reducible refine Kd.C_drew ?_)))
                (case side6 => exact HC0_3.out)
                rintro e w103 ⟨v374, v377, v380, rfl, ho0, ho1, ho2, hb⟩
                refine ⟨_, rfl, ?_⟩
                have n0_ := Aside0.mk (Kd.R_mono (Kd.R_told (Kd.R_told (Kd.R_told (Kd.R_old (pR14_ HO_19.out) hb) (Kd.R_base ho0)) (Kd.R_base ho1)) (Kd.R_base ho2)) (fun _ h_ => h_.1))
                have n1_ := Aside0.mk (Kd.R_mono (Kd.R_told (Kd.R_told (Kd.R_told (Kd.R_old (pR14_ HO_355001.out) hb) (Kd.R_base ho0)) (Kd.R_base ho1)) (Kd.R_base ho2)) (fun _ h_ => h_.1))
                have n2_ := Aside0.mk (Kd.R_mono (Kd.R_told (Kd.R_told (Kd.R_told (Kd.R_old (pR14_ HO_355002.out) hb) (Kd.R_base ho0)) (Kd.R_base ho1)) (Kd.R_base ho2)) (fun _ h_ => h_.1))
                have n3_ := Aside0.mk (Kd.R_mono (Kd.R_told (Kd.R_told (Kd.R_told (Kd.R_old (pR14_ HO_355003.out) hb) (Kd.R_base ho0)) (Kd.R_base ho1)) (Kd.R_base ho2)) (fun _ h_ => h_.1))
                have n4_ := Aside0.mk (Kd.R_lower (Kd.R_new' (Kd.R_new' (Kd.R_new' (Kd.R_new' ho0 (Kd.R_lt (pR14_ HO_19.out))) (Kd.R_lt (pR14_ HO_355001.out))) (Kd.R_lt (pR14_ HO_355002.out))) (Kd.R_lt (pR14_ HO_355003.out))) (below_size z14_2))
                have n5_ := Aside0.mk (Kd.R_lower (Kd.R_new' (Kd.R_new' (Kd.R_new' (Kd.R_new' ho1 (Kd.R_lt (pR14_ HO_19.out))) (Kd.R_lt (pR14_ HO_355001.out))) (Kd.R_lt (pR14_ HO_355002.out))) (Kd.R_lt (pR14_ HO_355003.out))) (below_size z14_2))
                have n6_ := Aside0.mk (Kd.R_lower (Kd.R_new' (Kd.R_new' (Kd.R_new' (Kd.R_new' ho2 (Kd.R_lt (pR14_ HO_19.out))) (Kd.R_lt (pR14_ HO_355001.out))) (Kd.R_lt (pR14_ HO_355002.out))) (Kd.R_lt (pR14_ HO_355003.out))) (below_size z14_2))
                have n7_ := Aside0.mk (blk_below (g := gb315) (o := .cells #[.int .i64 a0_0, .slice A0_1 l0_1.length c0_1, .slice A0_2 l0_2.length c0_2, .slice A0_3 l0_3.length c0_3] 30 (0, 0)) (pB14_ BK315.out) hb)
                have n8_ := Aside0.mk (blk_below (g := gb316) (o := .cells #[.int .i64 a2_0, .int .i64 a2_1, .int .i64 a2_2, .int .i64 a2_3, .int .i64 a2_4] 50 (0, 0)) (pB14_ BK316.out) hb)
                have n9_ := Aside0.mk (blk_below (g := gb343) (o := .cells #[.int .i64 t336, .int .i64 t337, .int .i64 t338, .int .i64 t339, .int .i64 t340, .int .i64 t341] 83 (0, 0)) (pB14_ BK343.out) hb)
                have n10_ := Aside0.mk (blk_below (g := gb354) (o := .cells #[.int .i64 t344, .slice Ao57 t345.length co57, .slice Ao58 t348.length co58, .slice Ao59 t351.length co59] 33 (0, 0)) (pB14_ BK354.out) hb)
                have n11_ := Aside0.mk (blk_below (g := gb370) (o := .cells #[.int .i64 t363, .int .i64 t364, .int .i64 t365, .int .i64 t366, .int .i64 t367, .int .i64 t368] 83 (0, 0)) (pB14_ BK370.out) hb)
                have n12_ := Aside0.mk (below_step z14_2 hb)
                clear HO_19
                clear HO_355001
                clear HO_355002
                clear HO_355003
                clear BK315
                clear BK316
                clear BK343
                clear BK354
                clear BK370
                clear HB
                have HO_19 := n0_
                have HO_355001 := n1_
                have HO_355002 := n2_
                have HO_355003 := n3_
                have HO375 := n4_
                have HO378 := n5_
                have HO381 := n6_
                have BK315 := n7_
                have BK316 := n8_
                have BK343 := n9_
                have BK354 := n10_
                have BK370 := n11_
                have HB := n12_
                clear n0_ n1_ n2_ n3_ n4_ n5_ n6_ n7_ n8_ n9_ n10_ n11_ n12_
                (try clear hb)
                (try clear hb2)
                (try clear hk)
                (try clear hi)
                (try clear ho0)
                (try clear ho1)
                (try clear ho2)
                obtain ⟨Ao104, co104, eo104⟩ := Kd.R_slice HO375.out
                (first | subst eo104 | (injection eo104 with f1_ f2_ f3_; have f4_ := f1_.symm; have f5_ := f3_.symm; clear f1_ f2_ f3_; subst f4_; subst f5_))
                obtain ⟨Ao105, co105, eo105⟩ := Kd.R_slice HO378.out
                (first | subst eo105 | (injection eo105 with f1_ f2_ f3_; have f4_ := f1_.symm; have f5_ := f3_.symm; clear f1_ f2_ f3_; subst f4_; subst f5_))
                obtain ⟨Ao106, co106, eo106⟩ := Kd.R_slice HO381.out
                (first | subst eo106 | (injection eo106 with f1_ f2_ f3_; have f4_ := f1_.symm; have f5_ := f3_.symm; clear f1_ f2_ f3_; subst f4_; subst f5_))
                refine hK.out _ _ ⟨(blk_cell BK354.out 0).trans rfl, (blk_cell BK354.out 1).trans rfl, (blk_cell BK354.out 2).trans rfl, (blk_cell BK354.out 3).trans rfl, (blk_cell BK315.out 0).trans rfl, (blk_cell BK315.out 1).trans rfl, (blk_cell BK315.out 2).trans rfl, (blk_cell BK315.out 3).trans rfl⟩ (fun hHeld => ?_)
                clear hK K
                refine norm_ (a' := ?_) ?_ ?_
                rotate_left
                · show Act.put _ (some 71) _ = _
                  simp only [Act.put, List.setIfInBounds_toArray, List.set_cons_zero, List.set_cons_succ, i64_w, i32_w]
                  rfl
                refine one_ (i := 3) (N := some 72) #[true, true, true, true, false] rfl rfl z14_38 (by decide) (fun K hK => ?_)
                refine goes_ Try.func24 z14_38 rfl #[.agg #[.int .i64 t344, .slice Ao57 t345.length co57, .slice Ao58 t348.length co58, .slice Ao59 t351.length co59], .agg #[.int .i64 t372, .slice Ao104 t373.length co104, .slice Ao105 t376.length co105, .slice Ao106 t379.length co106]] (by rfl) rfl rfl z14_4 ?_
                with_reducible refine (laws_eqAllowed.calls kj25 t344 _ _ t345 _ _ t348 _ _ t351 t372 _ _ t373 _ _ t376 _ _ t379 true _ ?side1 ?side2 ?side3 ?side4 ?side5 ?side6 ?side7 ?side8 ?side9 ?side10 ?side11 ?side12 A97.out).mono ?_
                (case side1 => repeat (first | exact (Kd.R_reads' HO_355001.out).2.2 | (with_reducible refine Kd.C_alloc ?_ _) | (with_reducible refine Kd.C_drewN ?_ _) | (with_reducible refine Kd.C_drew ?_)))
                (case side2 => exact (Kd.R_reads' HO_355001.out).2.1)
                (case side3 => repeat (first | exact (Kd.R_reads' HO_355002.out).2.2 | (with_reducible refine Kd.C_alloc ?_ _) | (with_reducible refine Kd.C_drewN ?_ _) | (with_reducible refine Kd.C_drew ?_)))
                (case side4 => exact (Kd.R_reads' HO_355002.out).2.1)
                (case side5 => repeat (first | exact (Kd.R_reads' HO_355003.out).2.2 | (with_reducible refine Kd.C_alloc ?_ _) | (with_reducible refine Kd.C_drewN ?_ _) | (with_reducible refine Kd.C_drew ?_)))
                (case side6 => exact (Kd.R_reads' HO_355003.out).2.1)
                (case side7 => repeat (first | exact (Kd.R_reads' HO375.out).2.2 | (with_reducible refine Kd.C_alloc ?_ _) | (with_reducible refine Kd.C_drewN ?_ _) | (with_reducible refine Kd.C_drew ?_)))
                (case side8 => exact (Kd.R_reads' HO375.out).2.1)
                (case side9 => repeat (first | exact (Kd.R_reads' HO378.out).2.2 | (with_reducible refine Kd.C_alloc ?_ _) | (with_reducible refine Kd.C_drewN ?_ _) | (with_reducible refine Kd.C_drew ?_)))
                (case side10 => exact (Kd.R_reads' HO378.out).2.1)
                (case side11 => repeat (first | exact (Kd.R_reads' HO381.out).2.2 | (with_reducible refine Kd.C_alloc ?_ _) | (with_reducible refine Kd.C_drewN ?_ _) | (with_reducible refine Kd.C_drew ?_)))
                (case side12 => exact (Kd.R_reads' HO381.out).2.1)
                rintro e w107 ⟨rfl, hb⟩
                refine ⟨_, rfl, ?_⟩
                have n0_ := Aside0.mk (Kd.R_below (pR14_ HO_19.out) hb)
                have n1_ := Aside0.mk (Kd.R_below (pR14_ HO_355001.out) hb)
                have n2_ := Aside0.mk (Kd.R_below (pR14_ HO_355002.out) hb)
                have n3_ := Aside0.mk (Kd.R_below (pR14_ HO_355003.out) hb)
                have n4_ := Aside0.mk (Kd.R_below (pR14_ HO375.out) hb)
                have n5_ := Aside0.mk (Kd.R_below (pR14_ HO378.out) hb)
                have n6_ := Aside0.mk (Kd.R_below (pR14_ HO381.out) hb)
                have n7_ := Aside0.mk (blk_below (g := gb315) (o := .cells #[.int .i64 a0_0, .slice A0_1 l0_1.length c0_1, .slice A0_2 l0_2.length c0_2, .slice A0_3 l0_3.length c0_3] 30 (0, 0)) (pB14_ BK315.out) hb)
                have n8_ := Aside0.mk (blk_below (g := gb316) (o := .cells #[.int .i64 a2_0, .int .i64 a2_1, .int .i64 a2_2, .int .i64 a2_3, .int .i64 a2_4] 50 (0, 0)) (pB14_ BK316.out) hb)
                have n9_ := Aside0.mk (blk_below (g := gb343) (o := .cells #[.int .i64 t336, .int .i64 t337, .int .i64 t338, .int .i64 t339, .int .i64 t340, .int .i64 t341] 83 (0, 0)) (pB14_ BK343.out) hb)
                have n10_ := Aside0.mk (blk_below (g := gb354) (o := .cells #[.int .i64 t344, .slice Ao57 t345.length co57, .slice Ao58 t348.length co58, .slice Ao59 t351.length co59] 33 (0, 0)) (pB14_ BK354.out) hb)
                have n11_ := Aside0.mk (blk_below (g := gb370) (o := .cells #[.int .i64 t363, .int .i64 t364, .int .i64 t365, .int .i64 t366, .int .i64 t367, .int .i64 t368] 83 (0, 0)) (pB14_ BK370.out) hb)
                have n12_ := Aside0.mk (below_step z14_2 hb)
                clear HO_19
                clear HO_355001
                clear HO_355002
                clear HO_355003
                clear HO375
                clear HO378
                clear HO381
                clear BK315
                clear BK316
                clear BK343
                clear BK354
                clear BK370
                clear HB
                have HO_19 := n0_
                have HO_355001 := n1_
                have HO_355002 := n2_
                have HO_355003 := n3_
                have HO375 := n4_
                have HO378 := n5_
                have HO381 := n6_
                have BK315 := n7_
                have BK316 := n8_
                have BK343 := n9_
                have BK354 := n10_
                have BK370 := n11_
                have HB := n12_
                clear n0_ n1_ n2_ n3_ n4_ n5_ n6_ n7_ n8_ n9_ n10_ n11_ n12_
                (try clear hb)
                (try clear hb2)
                (try clear hk)
                (try clear hi)
                refine hK.out _ _ ⟨(blk_cell BK354.out 0).trans rfl, (blk_cell BK354.out 1).trans rfl, (blk_cell BK354.out 2).trans rfl, (blk_cell BK354.out 3).trans rfl, (blk_cell BK315.out 0).trans rfl, (blk_cell BK315.out 1).trans rfl, (blk_cell BK315.out 2).trans rfl, (blk_cell BK315.out 3).trans rfl⟩ (fun hHeld => ?_)
                clear hK K
                refine norm_ (a' := ?_) ?_ ?_
                rotate_left
                · show Act.put _ (some 72) _ = _
                  simp only [Act.put, List.setIfInBounds_toArray, List.set_cons_zero, List.set_cons_succ, i64_w, i32_w]
                  rfl
                refine pure_ (i := 4) (N := some 73) (v := ?_) (a' := ?_) #[true, true, true, true, true] rfl rfl z14_38 (fun _ _ _ h => h) (Or.inl ⟨by rfl, ?_⟩) ?_ ?_
                rotate_left
                · intro w'
                  go_simp
                  with_reducible rfl
                rotate_left
                · simp only [Act.put, List.setIfInBounds_toArray, List.set_cons_zero, List.set_cons_succ, i64_w, i32_w]
                  rfl
                refine done_ z14_38 ?_
                try go_wp2_with (first | ((with_reducible refine gate_callee (f := 28) rfl ?_); refine goesL_ (some 76) rfl rfl Try.func28 z14_38 rfl #[.slice A3 l3.length c3] rfl z14_4 ?_; (with_reducible refine (laws_toIntS.calls kj25 _ _ l3 t383 _ ?side1 ?side2 A99.out).mono ?_); (case side1 => repeat (first | exact (Kd.C_below HR3.out HB.out) | (with_reducible refine Kd.C_alloc ?_ _) | (with_reducible refine Kd.C_drewN ?_ _) | (with_reducible refine Kd.C_drew ?_))); (case side2 => exact HC3.out); rintro e w108 ⟨v384, rfl, ho0, hb⟩; refine ⟨_, rfl, ?_⟩; have n0_ := Aside0.mk (Kd.R_elder' (pR14_ HO_19.out) (Kd.R_base ho0) hb); have n1_ := Aside0.mk (Kd.R_elder' (pR14_ HO_355001.out) (Kd.R_base ho0) hb); have n2_ := Aside0.mk (Kd.R_elder' (pR14_ HO_355002.out) (Kd.R_base ho0) hb); have n3_ := Aside0.mk (Kd.R_elder' (pR14_ HO_355003.out) (Kd.R_base ho0) hb); have n4_ := Aside0.mk (Kd.R_elder' (pR14_ HO375.out) (Kd.R_base ho0) hb); have n5_ := Aside0.mk (Kd.R_elder' (pR14_ HO378.out) (Kd.R_base ho0) hb); have n6_ := Aside0.mk (Kd.R_elder' (pR14_ HO381.out) (Kd.R_base ho0) hb); have n7_ := Aside0.mk (Kd.R_lower (Kd.R_new' (Kd.R_new' (Kd.R_new' (Kd.R_new' (Kd.R_new' (Kd.R_new' (Kd.R_new' ho0 (Kd.R_lt (pR14_ HO_19.out))) (Kd.R_lt (pR14_ HO_355001.out))) (Kd.R_lt (pR14_ HO_355002.out))) (Kd.R_lt (pR14_ HO_355003.out))) (Kd.R_lt (pR14_ HO375.out))) (Kd.R_lt (pR14_ HO378.out))) (Kd.R_lt (pR14_ HO381.out))) (below_size z14_2)); have n8_ := Aside0.mk (blk_below (g := gb315) (o := .cells #[.int .i64 a0_0, .slice A0_1 l0_1.length c0_1, .slice A0_2 l0_2.length c0_2, .slice A0_3 l0_3.length c0_3] 30 (0, 0)) (pB14_ BK315.out) hb); have n9_ := Aside0.mk (blk_below (g := gb316) (o := .cells #[.int .i64 a2_0, .int .i64 a2_1, .int .i64 a2_2, .int .i64 a2_3, .int .i64 a2_4] 50 (0, 0)) (pB14_ BK316.out) hb); have n10_ := Aside0.mk (blk_below (g := gb343) (o := .cells #[.int .i64 t336, .int .i64 t337, .int .i64 t338, .int .i64 t339, .int .i64 t340, .int .i64 t341] 83 (0, 0)) (pB14_ BK343.out) hb); have n11_ := Aside0.mk (blk_below (g := gb354) (o := .cells #[.int .i64 t344, .slice Ao57 t345.length co57, .slice Ao58 t348.length co58, .slice Ao59 t351.length co59] 33 (0, 0)) (pB14_ BK354.out) hb); have n12_ := Aside0.mk (blk_below (g := gb370) (o := .cells #[.int .i64 t363, .int .i64 t364, .int .i64 t365, .int .i64 t366, .int .i64 t367, .int .i64 t368] 83 (0, 0)) (pB14_ BK370.out) hb); have n13_ := Aside0.mk (below_step z14_2 hb); clear HO_19; clear HO_355001; clear HO_355002; clear HO_355003; clear HO375; clear HO378; clear HO381; clear BK315; clear BK316; clear BK343; clear BK354; clear BK370; clear HB; have HO_19 := n0_; have HO_355001 := n1_; have HO_355002 := n2_; have HO_355003 := n3_; have HO375 := n4_; have HO378 := n5_; have HO381 := n6_; have HO385 := n7_; have BK315 := n8_; have BK316 := n9_; have BK343 := n10_; have BK354 := n11_; have BK370 := n12_; have HB := n13_; clear n0_ n1_ n2_ n3_ n4_ n5_ n6_ n7_ n8_ n9_ n10_ n11_ n12_ n13_; (try clear hb); (try clear hb2); (try clear hk); (try clear hi); (try clear ho0); obtain ⟨Ao109, co109, eo109⟩ := Kd.R_slice HO385.out; subst eo109) | ((with_reducible refine gate_callee (f := 30) rfl ?_); refine goesL_ (some 77) rfl rfl Try.func30 z14_38 rfl #[.slice Ao61 t355.length co61, .slice Ao109 t383.length co109] rfl z14_4 ?_; (with_reducible refine (laws_eqIntS.calls kj25 _ _ t355 _ _ t383 true _ ?side1 ?side2 ?side3 ?side4 A100.out).mono ?_); (case side1 => repeat (first | exact (Kd.R_reads' HO_19.out).2.2 | (with_reducible refine Kd.C_alloc ?_ _) | (with_reducible refine Kd.C_drewN ?_ _) | (with_reducible refine Kd.C_drew ?_))); (case side2 => exact (Kd.R_reads' HO_19.out).2.1); (case side3 => repeat (first | exact (Kd.R_reads' HO385.out).2.2 | (with_reducible refine Kd.C_alloc ?_ _) | (with_reducible refine Kd.C_drewN ?_ _) | (with_reducible refine Kd.C_drew ?_))); (case side4 => exact (Kd.R_reads' HO385.out).2.1); rintro e w' ⟨rfl, ⟨nd, rfl⟩⟩; refine ⟨_, rfl, ?_⟩))
                go_ret
                exact ⟨by first | rfl | (simp [errW_none, errW_some] <;> rfl) | (simp [*, errW_none, errW_some] <;> rfl), by repeat (first | (with_reducible first | exact HB.out | apply below_alloc | apply pw_below_drewN | apply below_drew1 | refine below_set ?_ GE315.out | refine below_set ?_ GE316.out | refine below_set ?_ GE343.out | refine below_set ?_ GE354.out | refine below_set ?_ GE370.out) | exact HB.out)⟩
              · replace c101 := Bool.eq_false_iff.mpr c101
                subst c101
                have H1 : (some false) = some r := by rw [if_neg (show ¬ (false = true) by decide)] at H; exact H
                clear H
                have H := H1
                clear H1
                exact absurd ((Option.some.inj H).trans hr_.out) (by decide)
            · replace c98 := Bool.eq_false_iff.mpr c98
              subst c98
              have H1 : (some false) = some r := by rw [if_neg (show ¬ (false = true) by decide)] at H; exact H
              clear H
              have H := H1
              clear H1
              exact absurd ((Option.some.inj H).trans hr_.out) (by decide)

def wf30 (x : S30) : Prop := (Lit.int .i64 x.f0).wf = true ∧ (x.f1.length ≤ maxLen ∧ ∀ y4 ∈ x.f1, (Lit.int .i64 y4).wf = true) ∧ (x.f2.length ≤ maxLen ∧ ∀ y4 ∈ x.f2, (Lit.int .i64 y4).wf = true) ∧ (x.f3.length ≤ maxLen ∧ ∀ y4 ∈ x.f3, (Lit.int .i64 y4).wf = true)
def wf50 (x : S50) : Prop := (Lit.int .i64 x.f0).wf = true ∧ (Lit.int .i64 x.f1).wf = true ∧ (Lit.int .i64 x.f2).wf = true ∧ (Lit.int .i64 x.f3).wf = true ∧ (Lit.int .i64 x.f4).wf = true
/-- THE ONE PURE STATEMENT of laws_FnExactHealthFact. -/
def laws_FnExactHealthFact.Pure : Prop := ∀ (a0_0 : Int) (l0_1 : List Int) (l0_2 : List Int) (l0_3 : List Int) (a1 : Int) (a2_0 : Int) (a2_1 : Int) (a2_2 : Int) (a2_3 : Int) (a2_4 : Int) (l3 : List Int) (a4 : Int) (a5 : Int) (a6 : Int), ((Lit.int .i64 a0_0).wf = true) → ((l0_1.length ≤ maxLen ∧ ∀ y4 ∈ l0_1, (Lit.int .i64 y4).wf = true)) → ((l0_2.length ≤ maxLen ∧ ∀ y4 ∈ l0_2, (Lit.int .i64 y4).wf = true)) → ((l0_3.length ≤ maxLen ∧ ∀ y4 ∈ l0_3, (Lit.int .i64 y4).wf = true)) → ((Lit.int .i64 a1).wf = true) → ((Lit.int .i64 a2_0).wf = true) → ((Lit.int .i64 a2_1).wf = true) → ((Lit.int .i64 a2_2).wf = true) → ((Lit.int .i64 a2_3).wf = true) → ((Lit.int .i64 a2_4).wf = true) → ((l3.length ≤ maxLen ∧ ∀ y2 ∈ l3, (Lit.int .i64 y2).wf = true)) → ((Lit.int .i64 a4).wf = true) → ((Lit.int .i64 a5).wf = true) → ((Lit.int .i64 a6).wf = true) → ∃ k, laws_FnExactHealthFact.f k a0_0 l0_1 l0_2 l0_3 a1 a2_0 a2_1 a2_2 a2_3 a2_4 l3 a4 a5 a6 = some true

end Go.Proofs.Ytlmhemcpkmjkiaa.XFnExactHealthFact
