/- Written by this session's own program (wip/xprint, which runs over the kit's print): what the functions that the law reaches come to, each proved; and the law's row. Conditions: none. -/
import Derived.Test.YtgmgoabohppkeaaUFnRolesx0
import Derived.Test.YtgmgoabohppkeaaUFnRolesx1
import Derived.Ground.Names2Prog
import Derived.Lib.RowBridge
import Derived.Shelf.Slices.CompactI
import Derived.Shelf.Slices.In.SortNone
import Derived.Shelf.Sort.Plain
import Derived.Sort.OwnSortedInts
namespace Go.Proofs.Ytgmgoabohppkeaa.XFnRoles
open Go.RowKit Go.Proofs.YtgmgoabohppkeaaW.PrintWords Go.Proofs.YtgmgoabohppkeaaW.PrintLast Go.Proofs.YtgmgoabohppkeaaW.PrintMore
attribute [local go_sem] max2_int min2_int max_two min_two max_three min_three max_four min_four   -- for this text's walks alone
set_option linter.unusedVariables false
set_option linter.unusedSimpArgs false

/-! ### impl_AgeOf: function 99 -/
def impl_AgeOf.f (a0 : Int) (a1 : Int) : Option (Int) := (impl_IsTime.f a0).bind fun t125 => (if t125 = true then ((impl_IsTime.f a1).bind fun t126 => (if t126 = true then (if a0 > a1 then (some (-1)) else (some (wrap64 (a1 - a0)))) else (some (-1)))) else (some (-1)))
theorem z99_0 {Q : Prop} (g : Q := by (try simp only [List.map_toArray, List.map_cons, List.map_nil]); first | done | rfl | (simp only [List.length_drop, List.length_take]; rfl)) : Q := g
set_option maxHeartbeats 8000000 in
set_option maxRecDepth 100000 in
theorem impl_AgeOf.calls (a0 : Int) (a1 : Int) (r : Int) (w : World) (h : impl_AgeOf.f a0 a1 = some r) :
    Calls Try.prog 99 #[.int .i64 a0, .int .i64 a1] w fun e w' => e = .returned (.int .i64 r) ∧ Drawn0 w w' := by
  have H : ((impl_IsTime.f a0).bind fun t125 => (if t125 = true then ((impl_IsTime.f a1).bind fun t126 => (if t126 = true then (if a0 > a1 then (some (-1)) else (some (wrap64 (a1 - a0)))) else (some (-1)))) else (some (-1)))) = some r := h
  clear h
  replace H := Option.bind_eq_some_iff.mp H
  obtain ⟨t125, A30, H⟩ := H
  replace H : (if t125 = true then ((impl_IsTime.f a1).bind fun t126 => (if t126 = true then (if a0 > a1 then (some (-1)) else (some (wrap64 (a1 - a0)))) else (some (-1)))) else (some (-1))) = some r := H
  have A3 := Aside0.mk A30
  clear A30
  by_cases c4 : t125 = true
  · subst c4
    have H1 : ((impl_IsTime.f a1).bind fun t126 => (if t126 = true then (if a0 > a1 then (some (-1)) else (some (wrap64 (a1 - a0)))) else (some (-1)))) = some r := by rw [if_pos rfl] at H; exact H
    clear H
    have H := H1
    clear H1
    replace H := Option.bind_eq_some_iff.mp H
    obtain ⟨t126, A50, H⟩ := H
    replace H : (if t126 = true then (if a0 > a1 then (some (-1)) else (some (wrap64 (a1 - a0)))) else (some (-1))) = some r := H
    have A5 := Aside0.mk A50
    clear A50
    by_cases c6 : t126 = true
    · subst c6
      have H1 : (if a0 > a1 then (some (-1)) else (some (wrap64 (a1 - a0)))) = some r := by rw [if_pos rfl] at H; exact H
      clear H
      have H := H1
      clear H1
      by_cases c7 : a0 > a1
      · rw [if_pos c7] at H
        have c7b0 : decide (a1 < a0) = true := decide_eq_true c7
        clear c7
        obtain rfl := Option.some.inj H
        go_enter Try.func99, Try.ntmps99
        go_wp2_with (first | ((with_reducible refine gate_callee (f := 78) rfl ?_); refine goesL_ (some 6) rfl rfl Try.func78 (by kernel_rfl) rfl #[.int .i64 a0] rfl z99_0 ?_; (with_reducible refine (impl_IsTime.calls a0 true _ A3.out).mono ?_); rintro e w' ⟨rfl, ⟨nd, rfl⟩⟩; refine ⟨_, rfl, ?_⟩) | (go_at_call 78; (with_reducible refine (impl_IsTime.calls a1 true _ A5.out).mono ?_); rintro e w' ⟨rfl, ⟨nd, rfl⟩⟩))
        go_ret
        exact ⟨by first | rfl | (simp; done) | (simp [*]; done), by repeat (first | exact Drawn0.refl _ | apply Drawn0.step)⟩
      · rw [if_neg c7] at H
        have c7b0 : decide (a1 < a0) = false := decide_eq_false c7
        clear c7
        obtain rfl := Option.some.inj H
        go_enter Try.func99, Try.ntmps99
        go_wp2_with (first | ((with_reducible refine gate_callee (f := 78) rfl ?_); refine goesL_ (some 6) rfl rfl Try.func78 (by kernel_rfl) rfl #[.int .i64 a0] rfl z99_0 ?_; (with_reducible refine (impl_IsTime.calls a0 true _ A3.out).mono ?_); rintro e w' ⟨rfl, ⟨nd, rfl⟩⟩; refine ⟨_, rfl, ?_⟩) | (go_at_call 78; (with_reducible refine (impl_IsTime.calls a1 true _ A5.out).mono ?_); rintro e w' ⟨rfl, ⟨nd, rfl⟩⟩))
        go_ret
        exact ⟨by first | rfl | (simp; done) | (simp [*]; done), by repeat (first | exact Drawn0.refl _ | apply Drawn0.step)⟩
    · replace c6 := Bool.eq_false_iff.mpr c6
      subst c6
      have H1 : (some (-1)) = some r := by rw [if_neg (show ¬ (false = true) by decide)] at H; exact H
      clear H
      have H := H1
      clear H1
      obtain rfl := Option.some.inj H
      go_enter Try.func99, Try.ntmps99
      go_wp2_with (first | ((with_reducible refine gate_callee (f := 78) rfl ?_); refine goesL_ (some 6) rfl rfl Try.func78 (by kernel_rfl) rfl #[.int .i64 a0] rfl z99_0 ?_; (with_reducible refine (impl_IsTime.calls a0 true _ A3.out).mono ?_); rintro e w' ⟨rfl, ⟨nd, rfl⟩⟩; refine ⟨_, rfl, ?_⟩) | (go_at_call 78; (with_reducible refine (impl_IsTime.calls a1 false _ A5.out).mono ?_); rintro e w' ⟨rfl, ⟨nd, rfl⟩⟩))
      go_ret
      exact ⟨by first | rfl | (simp; done) | (simp [*]; done), by repeat (first | exact Drawn0.refl _ | apply Drawn0.step)⟩
  · replace c4 := Bool.eq_false_iff.mpr c4
    subst c4
    have H1 : (some (-1)) = some r := by rw [if_neg (show ¬ (false = true) by decide)] at H; exact H
    clear H
    have H := H1
    clear H1
    obtain rfl := Option.some.inj H
    go_enter Try.func99, Try.ntmps99
    go_wp2_with (first | ((with_reducible refine gate_callee (f := 78) rfl ?_); refine goesL_ (some 6) rfl rfl Try.func78 (by kernel_rfl) rfl #[.int .i64 a0] rfl z99_0 ?_; (with_reducible refine (impl_IsTime.calls a0 false _ A3.out).mono ?_); rintro e w' ⟨rfl, ⟨nd, rfl⟩⟩; refine ⟨_, rfl, ?_⟩))
    go_ret
    exact ⟨by first | rfl | (simp; done) | (simp [*]; done), by repeat (first | exact Drawn0.refl _ | apply Drawn0.step)⟩

/-! ### impl_HoldsAt: function 63 -/
def impl_HoldsAt.f (a0_0 : Int) (a0_1 : Int) (a0_2 : Int) (a0_3 : Int) (a0_4 : Int) (a0_5 : Int) (a1 : Int) (a2 : Int) : Option (Bool) := (impl_IsFact.f a0_0 a0_1 a0_2 a0_3 a0_4 a0_5).bind fun t128 => (if t128 = true then ((impl_IsWithin.f a0_4 a0_5 a1).bind fun t129 => (if t129 = true then ((impl_AgeOf.f a0_4 a1).bind fun t130 => (some (decide (t130 ≤ a2)))) else (some false))) else (some false))
theorem pB63_ {P Q : Prop} (h : P) (g : P → Q := by intro h_; (with_reducible repeat (first | refine blk_drewN ?_ _ | refine blk_drew ?_ | refine blk_alloc ?_ _)); exact h_) : Q := g h
theorem z63_0 {Q : Prop} (g : Q := by repeat (first | (with_reducible first | exact HB.out | apply bA_ | apply bN_ | apply bD_) | exact HB.out)) : Q := g
theorem z63_1 {Q : Prop} (g : Q := by repeat (first | (with_reducible first | exact HB.out | apply bA_ | apply bN_ | apply bD_ | refine bS_ ?_ GE127.out) | exact HB.out)) : Q := g
theorem z63_2 {Q : Prop} (g : Q := by (try simp only [List.map_toArray, List.map_cons, List.map_nil]); first | done | rfl | (simp only [List.length_drop, List.length_take]; rfl)) : Q := g
set_option maxHeartbeats 8000000 in
set_option maxRecDepth 100000 in
theorem impl_HoldsAt.calls (a0_0 : Int) (a0_1 : Int) (a0_2 : Int) (a0_3 : Int) (a0_4 : Int) (a0_5 : Int) (a1 : Int) (a2 : Int) (r : Bool) (w : World) (h : impl_HoldsAt.f a0_0 a0_1 a0_2 a0_3 a0_4 a0_5 a1 a2 = some r) :
    Calls Try.prog 63 #[.agg #[.int .i64 a0_0, .int .i64 a0_1, .int .i64 a0_2, .int .i64 a0_3, .int .i64 a0_4, .int .i64 a0_5], .int .i64 a1, .int .i64 a2] w fun e w' => e = .returned (.bool r) ∧ Below w.heap.size w w' := by
  have hu75 := Try.underlying75
  have HB := Aside0.mk (Below.refl w.heap.size w)
  have H : ((impl_IsFact.f a0_0 a0_1 a0_2 a0_3 a0_4 a0_5).bind fun t128 => (if t128 = true then ((impl_IsWithin.f a0_4 a0_5 a1).bind fun t129 => (if t129 = true then ((impl_AgeOf.f a0_4 a1).bind fun t130 => (some (decide (t130 ≤ a2)))) else (some false))) else (some false))) = some r := h
  clear h
  replace H := Option.bind_eq_some_iff.mp H
  obtain ⟨t128, A40, H⟩ := H
  replace H : (if t128 = true then ((impl_IsWithin.f a0_4 a0_5 a1).bind fun t129 => (if t129 = true then ((impl_AgeOf.f a0_4 a1).bind fun t130 => (some (decide (t130 ≤ a2)))) else (some false))) else (some false)) = some r := H
  have A4 := Aside0.mk A40
  clear A40
  by_cases c5 : t128 = true
  · subst c5
    have H1 : ((impl_IsWithin.f a0_4 a0_5 a1).bind fun t129 => (if t129 = true then ((impl_AgeOf.f a0_4 a1).bind fun t130 => (some (decide (t130 ≤ a2)))) else (some false))) = some r := by rw [if_pos rfl] at H; exact H
    clear H
    have H := H1
    clear H1
    replace H := Option.bind_eq_some_iff.mp H
    obtain ⟨t129, A60, H⟩ := H
    replace H : (if t129 = true then ((impl_AgeOf.f a0_4 a1).bind fun t130 => (some (decide (t130 ≤ a2)))) else (some false)) = some r := H
    have A6 := Aside0.mk A60
    clear A60
    by_cases c7 : t129 = true
    · subst c7
      have H1 : ((impl_AgeOf.f a0_4 a1).bind fun t130 => (some (decide (t130 ≤ a2)))) = some r := by rw [if_pos rfl] at H; exact H
      clear H
      have H := H1
      clear H1
      replace H := Option.bind_eq_some_iff.mp H
      obtain ⟨t130, A80, H⟩ := H
      replace H : (some (decide (t130 ≤ a2))) = some r := H
      have A8 := Aside0.mk A80
      clear A80
      obtain rfl := Option.some.inj H
      go_enter Try.func63, Try.ntmps63
      go_wp2_with (first | ((with_reducible refine gate_dst (N := 3) rfl ?_); refine box_event ?hg (N := 3) ?hd (cs := #[.int .i64 a0_0, .int .i64 a0_1, .int .i64 a0_2, .int .i64 a0_3, .int .i64 a0_4, .int .i64 a0_5]) (t := 75) ?hr ?_; (case hd => rfl); (case hg => rfl); (case hr => first | (go_simp; done) | (go_simp; rfl)); intro gb127 hg w9 hbox hb; have n0_ := Aside0.mk (below_step z63_0 hb); have n1_ := Aside0.mk (hbox); have n2_ := Aside0.mk ((by rw [hg]; exact (below_size z63_0) : w.heap.size ≤ gb127)); have n3_ := Aside0.mk ((by rw [hg]; exact (below_size z63_0) : w.heap.size ≤ gb127)); clear HB; have HB := n0_; have BK127 := n1_; have GW127 := n2_; have GE127 := n3_; clear n0_ n1_ n2_ n3_; clear hb hbox hg; have hcz10_0 : w9.cell? ⟨gb127, 0, none⟩ = some (.int .i64 a0_0) := (bC_ BK127.out 0).trans rfl; have hcz10_1 : w9.cell? ⟨gb127, 1, none⟩ = some (.int .i64 a0_1) := (bC_ BK127.out 1).trans rfl; have hcz10_2 : w9.cell? ⟨gb127, 2, none⟩ = some (.int .i64 a0_2) := (bC_ BK127.out 2).trans rfl; have hcz10_3 : w9.cell? ⟨gb127, 3, none⟩ = some (.int .i64 a0_3) := (bC_ BK127.out 3).trans rfl; have hcz10_4 : w9.cell? ⟨gb127, 4, none⟩ = some (.int .i64 a0_4) := (bC_ BK127.out 4).trans rfl; have hcz10_5 : w9.cell? ⟨gb127, 5, none⟩ = some (.int .i64 a0_5) := (bC_ BK127.out 5).trans rfl; have hfz10_0 := bF_ BK127.out 0; have hfz10_1 := bF_ BK127.out 1; have hfz10_2 := bF_ BK127.out 2; have hfz10_3 := bF_ BK127.out 3; have hfz10_4 := bF_ BK127.out 4; have hfz10_5 := bF_ BK127.out 5) | ((with_reducible refine gate_callee (f := 97) rfl ?_); refine goesL_ (some 8) rfl rfl Try.func97 (by kernel_rfl) rfl #[.agg #[.int .i64 a0_0, .int .i64 a0_1, .int .i64 a0_2, .int .i64 a0_3, .int .i64 a0_4, .int .i64 a0_5]] rfl z63_2 ?_; (with_reducible refine (impl_IsFact.calls a0_0 a0_1 a0_2 a0_3 a0_4 a0_5 true _ A4.out).mono ?_); rintro e w11 ⟨rfl, hb⟩; refine ⟨_, rfl, ?_⟩; have n0_ := Aside0.mk (blk_below (g := gb127) (o := .cells #[.int .i64 a0_0, .int .i64 a0_1, .int .i64 a0_2, .int .i64 a0_3, .int .i64 a0_4, .int .i64 a0_5] 75 (0, 0)) (pB63_ BK127.out) hb); have n1_ := Aside0.mk (below_step z63_1 hb); clear BK127; clear HB; have BK127 := n0_; have HB := n1_; clear n0_ n1_; (try clear hb); (try clear hb2); (try clear hk); (try clear hi); have hcz12_0 : w11.cell? ⟨gb127, 0, none⟩ = some (.int .i64 a0_0) := (bC_ BK127.out 0).trans rfl; have hcz12_1 : w11.cell? ⟨gb127, 1, none⟩ = some (.int .i64 a0_1) := (bC_ BK127.out 1).trans rfl; have hcz12_2 : w11.cell? ⟨gb127, 2, none⟩ = some (.int .i64 a0_2) := (bC_ BK127.out 2).trans rfl; have hcz12_3 : w11.cell? ⟨gb127, 3, none⟩ = some (.int .i64 a0_3) := (bC_ BK127.out 3).trans rfl; have hcz12_4 : w11.cell? ⟨gb127, 4, none⟩ = some (.int .i64 a0_4) := (bC_ BK127.out 4).trans rfl; have hcz12_5 : w11.cell? ⟨gb127, 5, none⟩ = some (.int .i64 a0_5) := (bC_ BK127.out 5).trans rfl; have hfz12_0 := bF_ BK127.out 0; have hfz12_1 := bF_ BK127.out 1; have hfz12_2 := bF_ BK127.out 2; have hfz12_3 := bF_ BK127.out 3; have hfz12_4 := bF_ BK127.out 4; have hfz12_5 := bF_ BK127.out 5) | (go_at_call 98; (with_reducible refine (impl_IsWithin.calls a0_4 a0_5 a1 true _ A6.out).mono ?_); rintro e w' ⟨rfl, ⟨nd, rfl⟩⟩) | (go_at_call 99; (with_reducible refine (impl_AgeOf.calls a0_4 a1 t130 _ A8.out).mono ?_); rintro e w' ⟨rfl, ⟨nd, rfl⟩⟩))
      go_ret
      exact ⟨by first | rfl | (simp [errW_none, errW_some] <;> rfl) | (simp [*, errW_none, errW_some] <;> rfl), by repeat (first | (with_reducible first | exact HB.out | apply bA_ | apply bN_ | apply bD_ | refine bS_ ?_ GE127.out) | exact HB.out)⟩
    · replace c7 := Bool.eq_false_iff.mpr c7
      subst c7
      have H1 : (some false) = some r := by rw [if_neg (show ¬ (false = true) by decide)] at H; exact H
      clear H
      have H := H1
      clear H1
      obtain rfl := Option.some.inj H
      go_enter Try.func63, Try.ntmps63
      go_wp2_with (first | ((with_reducible refine gate_dst (N := 3) rfl ?_); refine box_event ?hg (N := 3) ?hd (cs := #[.int .i64 a0_0, .int .i64 a0_1, .int .i64 a0_2, .int .i64 a0_3, .int .i64 a0_4, .int .i64 a0_5]) (t := 75) ?hr ?_; (case hd => rfl); (case hg => rfl); (case hr => first | (go_simp; done) | (go_simp; rfl)); intro gb127 hg w13 hbox hb; have n0_ := Aside0.mk (below_step z63_0 hb); have n1_ := Aside0.mk (hbox); have n2_ := Aside0.mk ((by rw [hg]; exact (below_size z63_0) : w.heap.size ≤ gb127)); have n3_ := Aside0.mk ((by rw [hg]; exact (below_size z63_0) : w.heap.size ≤ gb127)); clear HB; have HB := n0_; have BK127 := n1_; have GW127 := n2_; have GE127 := n3_; clear n0_ n1_ n2_ n3_; clear hb hbox hg; have hcz14_0 : w13.cell? ⟨gb127, 0, none⟩ = some (.int .i64 a0_0) := (bC_ BK127.out 0).trans rfl; have hcz14_1 : w13.cell? ⟨gb127, 1, none⟩ = some (.int .i64 a0_1) := (bC_ BK127.out 1).trans rfl; have hcz14_2 : w13.cell? ⟨gb127, 2, none⟩ = some (.int .i64 a0_2) := (bC_ BK127.out 2).trans rfl; have hcz14_3 : w13.cell? ⟨gb127, 3, none⟩ = some (.int .i64 a0_3) := (bC_ BK127.out 3).trans rfl; have hcz14_4 : w13.cell? ⟨gb127, 4, none⟩ = some (.int .i64 a0_4) := (bC_ BK127.out 4).trans rfl; have hcz14_5 : w13.cell? ⟨gb127, 5, none⟩ = some (.int .i64 a0_5) := (bC_ BK127.out 5).trans rfl; have hfz14_0 := bF_ BK127.out 0; have hfz14_1 := bF_ BK127.out 1; have hfz14_2 := bF_ BK127.out 2; have hfz14_3 := bF_ BK127.out 3; have hfz14_4 := bF_ BK127.out 4; have hfz14_5 := bF_ BK127.out 5) | ((with_reducible refine gate_callee (f := 97) rfl ?_); refine goesL_ (some 8) rfl rfl Try.func97 (by kernel_rfl) rfl #[.agg #[.int .i64 a0_0, .int .i64 a0_1, .int .i64 a0_2, .int .i64 a0_3, .int .i64 a0_4, .int .i64 a0_5]] rfl z63_2 ?_; (with_reducible refine (impl_IsFact.calls a0_0 a0_1 a0_2 a0_3 a0_4 a0_5 true _ A4.out).mono ?_); rintro e w15 ⟨rfl, hb⟩; refine ⟨_, rfl, ?_⟩; have n0_ := Aside0.mk (blk_below (g := gb127) (o := .cells #[.int .i64 a0_0, .int .i64 a0_1, .int .i64 a0_2, .int .i64 a0_3, .int .i64 a0_4, .int .i64 a0_5] 75 (0, 0)) (pB63_ BK127.out) hb); have n1_ := Aside0.mk (below_step z63_1 hb); clear BK127; clear HB; have BK127 := n0_; have HB := n1_; clear n0_ n1_; (try clear hb); (try clear hb2); (try clear hk); (try clear hi); have hcz16_0 : w15.cell? ⟨gb127, 0, none⟩ = some (.int .i64 a0_0) := (bC_ BK127.out 0).trans rfl; have hcz16_1 : w15.cell? ⟨gb127, 1, none⟩ = some (.int .i64 a0_1) := (bC_ BK127.out 1).trans rfl; have hcz16_2 : w15.cell? ⟨gb127, 2, none⟩ = some (.int .i64 a0_2) := (bC_ BK127.out 2).trans rfl; have hcz16_3 : w15.cell? ⟨gb127, 3, none⟩ = some (.int .i64 a0_3) := (bC_ BK127.out 3).trans rfl; have hcz16_4 : w15.cell? ⟨gb127, 4, none⟩ = some (.int .i64 a0_4) := (bC_ BK127.out 4).trans rfl; have hcz16_5 : w15.cell? ⟨gb127, 5, none⟩ = some (.int .i64 a0_5) := (bC_ BK127.out 5).trans rfl; have hfz16_0 := bF_ BK127.out 0; have hfz16_1 := bF_ BK127.out 1; have hfz16_2 := bF_ BK127.out 2; have hfz16_3 := bF_ BK127.out 3; have hfz16_4 := bF_ BK127.out 4; have hfz16_5 := bF_ BK127.out 5) | (go_at_call 98; (with_reducible refine (impl_IsWithin.calls a0_4 a0_5 a1 false _ A6.out).mono ?_); rintro e w' ⟨rfl, ⟨nd, rfl⟩⟩))
      go_ret
      exact ⟨by first | rfl | (simp [errW_none, errW_some] <;> rfl) | (simp [*, errW_none, errW_some] <;> rfl), by repeat (first | (with_reducible first | exact HB.out | apply bA_ | apply bN_ | apply bD_ | refine bS_ ?_ GE127.out) | exact HB.out)⟩
  · replace c5 := Bool.eq_false_iff.mpr c5
    subst c5
    have H1 : (some false) = some r := by rw [if_neg (show ¬ (false = true) by decide)] at H; exact H
    clear H
    have H := H1
    clear H1
    obtain rfl := Option.some.inj H
    go_enter Try.func63, Try.ntmps63
    go_wp2_with (first | ((with_reducible refine gate_dst (N := 3) rfl ?_); refine box_event ?hg (N := 3) ?hd (cs := #[.int .i64 a0_0, .int .i64 a0_1, .int .i64 a0_2, .int .i64 a0_3, .int .i64 a0_4, .int .i64 a0_5]) (t := 75) ?hr ?_; (case hd => rfl); (case hg => rfl); (case hr => first | (go_simp; done) | (go_simp; rfl)); intro gb127 hg w17 hbox hb; have n0_ := Aside0.mk (below_step z63_0 hb); have n1_ := Aside0.mk (hbox); have n2_ := Aside0.mk ((by rw [hg]; exact (below_size z63_0) : w.heap.size ≤ gb127)); have n3_ := Aside0.mk ((by rw [hg]; exact (below_size z63_0) : w.heap.size ≤ gb127)); clear HB; have HB := n0_; have BK127 := n1_; have GW127 := n2_; have GE127 := n3_; clear n0_ n1_ n2_ n3_; clear hb hbox hg; have hcz18_0 : w17.cell? ⟨gb127, 0, none⟩ = some (.int .i64 a0_0) := (bC_ BK127.out 0).trans rfl; have hcz18_1 : w17.cell? ⟨gb127, 1, none⟩ = some (.int .i64 a0_1) := (bC_ BK127.out 1).trans rfl; have hcz18_2 : w17.cell? ⟨gb127, 2, none⟩ = some (.int .i64 a0_2) := (bC_ BK127.out 2).trans rfl; have hcz18_3 : w17.cell? ⟨gb127, 3, none⟩ = some (.int .i64 a0_3) := (bC_ BK127.out 3).trans rfl; have hcz18_4 : w17.cell? ⟨gb127, 4, none⟩ = some (.int .i64 a0_4) := (bC_ BK127.out 4).trans rfl; have hcz18_5 : w17.cell? ⟨gb127, 5, none⟩ = some (.int .i64 a0_5) := (bC_ BK127.out 5).trans rfl; have hfz18_0 := bF_ BK127.out 0; have hfz18_1 := bF_ BK127.out 1; have hfz18_2 := bF_ BK127.out 2; have hfz18_3 := bF_ BK127.out 3; have hfz18_4 := bF_ BK127.out 4; have hfz18_5 := bF_ BK127.out 5) | ((with_reducible refine gate_callee (f := 97) rfl ?_); refine goesL_ (some 8) rfl rfl Try.func97 (by kernel_rfl) rfl #[.agg #[.int .i64 a0_0, .int .i64 a0_1, .int .i64 a0_2, .int .i64 a0_3, .int .i64 a0_4, .int .i64 a0_5]] rfl z63_2 ?_; (with_reducible refine (impl_IsFact.calls a0_0 a0_1 a0_2 a0_3 a0_4 a0_5 false _ A4.out).mono ?_); rintro e w19 ⟨rfl, hb⟩; refine ⟨_, rfl, ?_⟩; have n0_ := Aside0.mk (blk_below (g := gb127) (o := .cells #[.int .i64 a0_0, .int .i64 a0_1, .int .i64 a0_2, .int .i64 a0_3, .int .i64 a0_4, .int .i64 a0_5] 75 (0, 0)) (pB63_ BK127.out) hb); have n1_ := Aside0.mk (below_step z63_1 hb); clear BK127; clear HB; have BK127 := n0_; have HB := n1_; clear n0_ n1_; (try clear hb); (try clear hb2); (try clear hk); (try clear hi)))
    go_ret
    exact ⟨by first | rfl | (simp [errW_none, errW_some] <;> rfl) | (simp [*, errW_none, errW_some] <;> rfl), by repeat (first | (with_reducible first | exact HB.out | apply bA_ | apply bN_ | apply bD_ | refine bS_ ?_ GE127.out) | exact HB.out)⟩

/-! ### slices_Sort_int_int: function 64 -/
def Try.laysSort_ren : Go.Shelf.Ren := ⟨fun | 189 => 64 | 125 => 101 | 257 => 100 | 128 => 122 | 129 => 123 | 294 => 113 | 295 => 114 | 296 => 115 | 297 => 116 | 298 => 117 | 299 => 118 | 216 => 119 | 300 => 120 | 301 => 121 | 328 => 130 | 329 => 131 | 330 => 132 | 331 => 133 | 332 => 134 | 215 => 135 | 343 => 143 | n => n, fun | 28 => 26 | 3 => 3 | 46 => 115 | 0 => 0 | 51 => 133 | 53 => 135 | 4 => 4 | 183 => 126 | 182 => 125 | 131 => 130 | 5 => 5 | 9 => 9 | 218 => 139 | 222 => 143 | 228 => 149 | 229 => 150 | n => n, fun | n => n⟩
theorem Try.laysSort : Go.Proofs.Lays.n189 Try.prog Try.laysSort_ren := {
  mixed := by kernel_rfl
  f125 := Try.func101.trans (congrArg some (by kernel_rfl))
  f128 := Try.func122.trans (congrArg some (by kernel_rfl))
  f129 := Try.func123.trans (congrArg some (by kernel_rfl))
  f189 := Try.func64.trans (congrArg some (by kernel_rfl))
  f215 := Try.func135.trans (congrArg some (by kernel_rfl))
  f216 := Try.func119.trans (congrArg some (by kernel_rfl))
  f257 := Try.func100.trans (congrArg some (by kernel_rfl))
  f294 := Try.func113.trans (congrArg some (by kernel_rfl))
  f295 := Try.func114.trans (congrArg some (by kernel_rfl))
  f296 := Try.func115.trans (congrArg some (by kernel_rfl))
  f297 := Try.func116.trans (congrArg some (by kernel_rfl))
  f298 := Try.func117.trans (congrArg some (by kernel_rfl))
  f299 := Try.func118.trans (congrArg some (by kernel_rfl))
  f300 := Try.func120.trans (congrArg some (by kernel_rfl))
  f301 := Try.func121.trans (congrArg some (by kernel_rfl))
  f328 := Try.func130.trans (congrArg some (by kernel_rfl))
  f329 := Try.func131.trans (congrArg some (by kernel_rfl))
  f330 := Try.func132.trans (congrArg some (by kernel_rfl))
  f331 := Try.func133.trans (congrArg some (by kernel_rfl))
  f332 := Try.func134.trans (congrArg some (by kernel_rfl))
  f343 := Try.func143.trans (congrArg some (by kernel_rfl))
  t0 := Try.underlying0
  a0 := Try.isAgg0
  z0 := Try.sizeOf0
  v0 := Try.zeroValue0
  t3 := Try.underlying3
  a3 := Try.isAgg3
  z3 := Try.sizeOf3
  v3 := Try.zeroValue3
  t4 := Try.underlying4
  a4 := Try.isAgg4
  z4 := Try.sizeOf4
  v4 := Try.zeroValue4
  t5 := Try.underlying5
  a5 := Try.isAgg5
  z5 := Try.sizeOf5
  v5 := Try.zeroValue5
  t9 := Try.underlying9
  a9 := Try.isAgg9
  z9 := Try.sizeOf9
  v9 := Try.zeroValue9
  t28 := Try.underlying26
  a28 := Try.isAgg26
  z28 := Try.sizeOf26
  v28 := Try.zeroValue26
  t46 := Try.underlying115
  a46 := Try.isAgg115
  z46 := Try.sizeOf115
  v46 := Try.zeroValue115
  t51 := Try.underlying133
  a51 := Try.isAgg133
  z51 := Try.sizeOf133
  v51 := Try.zeroValue133
  t53 := Try.underlying135
  a53 := Try.isAgg135
  z53 := Try.sizeOf135
  v53 := Try.zeroValue135
  t131 := Try.underlying130
  a131 := Try.isAgg130
  z131 := Try.sizeOf130
  v131 := Try.zeroValue130
  t182 := Try.underlying125
  a182 := Try.isAgg125
  z182 := Try.sizeOf125
  v182 := Try.zeroValue125
  t183 := Try.underlying126
  a183 := Try.isAgg126
  z183 := Try.sizeOf126
  v183 := Try.zeroValue126
  t218 := Try.underlying139
  a218 := Try.isAgg139
  z218 := Try.sizeOf139
  v218 := Try.zeroValue139
  t222 := Try.underlying143
  a222 := Try.isAgg143
  z222 := Try.sizeOf143
  v222 := Try.zeroValue143
  t228 := Try.underlying149
  a228 := Try.isAgg149
  z228 := Try.sizeOf149
  v228 := Try.zeroValue149
  t229 := Try.underlying150
  a229 := Try.isAgg150
  z229 := Try.sizeOf150
  v229 := Try.zeroValue150 }
/-- Sort of the call's own whole numbers: in ascending order (the shelf's contract). -/
def slices_Sort_int_int.f (l0 : List Int) : Option (List Int) := if l0.length < 4611686018427387904 then some (l0.mergeSort fun x y => decide (x ≤ y)) else none
set_option maxHeartbeats 8000000 in
set_option maxRecDepth 100000 in
open Go Go.Sort Go.Shelf in
theorem slices_Sort_int_int.calls (P0_ : Nat → Prop) (u9000_ : Value) (l0 : List Int) (r : List Int) (w0 w : World) (hB : Below w0.heap.size w0 w) (ho0 : Kd.R (Kd.int .i64) 3 w w0.heap.size P0_ u9000_ l0) (h : slices_Sort_int_int.f l0 = some r) :
    Calls Try.prog 64 #[u9000_] w fun e w' => e = .returned (.tuple #[]) ∧ Kd.R (Kd.int .i64) 3 w' w0.heap.size (fun k_ => (P0_ k_ ∨ w.heap.size ≤ k_)) u9000_ r ∧ Below w0.heap.size w0 w' ∧ Kept w w' (fun k_ => P0_ k_) := by
  unfold slices_Sort_int_int.f at h
  split at h
  · rename_i hsz
    obtain rfl := Option.some.inj h
    clear h
    have ho : w.ownsRow w0.heap.size 3 1 u9000_ l0.length (l0.map (Value.int .i64)) := Kd.own_of_R (enc := Value.int .i64) (h1 := fun _ => rfl) ho0
    obtain ⟨hlen, ⟨rfl, h0⟩ | ⟨g, cap, cur, rfl, hbase, hb, h1, h2, h3, h4⟩⟩ := ho
    · obtain rfl : l0 = [] := List.eq_nil_of_length_eq_zero h0
      refine (Any.slices_Sort_int_none Try.laysSort none 0 w).mono ?_
      rintro e w' ⟨rfl, rfl⟩
      refine ⟨rfl, ?_, hB, Kept.refl _ _⟩
      rw [List.mergeSort_nil]
      exact Kd.R_nil _ _ _ _ _
    · have hH : Holds (Value.int .i64) w g 0 l0.toArray := holds_of_blockI hb (by simpa using h4)
      have hgl : g < w.heap.size := (Array.getElem?_eq_some_iff.1 hb).1
      have hP : P0_ g := ho0.1 g (by simp [Value.ownBlock])
      refine (Any.slices_Sort_int Try.laysSort g 0 cap l0 w hH hgl hsz).mono ?_
      rintro e w' ⟨rfl, nn, os, rfl⟩
      have hl2 : (l0.mergeSort fun x y => decide (x ≤ y)).length = l0.length := List.length_mergeSort l0
      have hro := ownsRow_sortedI (n := nn) (os := os) (ts := l0.mergeSort fun x y => decide (x ≤ y)) hl2 hbase hb h1 h2 h3
      have hg := grownBy_sortedI (w := w) (g := g) (n := nn) (os := os) (l0.mergeSort fun x y => decide (x ≤ y)).toArray
      refine ⟨rfl, ?_, ⟨hg.os.trans hB.os, hg.tape.trans hB.tape, hg.output.trans hB.output, Nat.le_trans hB.size hg.size, fun k hk => ?_⟩, Kept.of_grown hg (Kept.refl w _) (fun k hk => ?_)⟩
      · refine Kd.R_of_own (enc := Value.int .i64) (h1 := fun _ => rfl) ?_ (fun k hk => .inl (ho0.1 k hk))
        rw [hl2]
        exact hro
      · have hs := hB.size
        exact (hg.block k (by omega) (fun e => by cases e; omega)).trans (hB.block k hk)
      · cases hk
        exact .inl hP
  · cases h

/-! ### slices_Compact_int_int: function 65 -/
def Try.laysCompact_ren : Go.Shelf.Ren := ⟨fun | 20 => 65 | n => n, fun | 22 => 26 | 3 => 3 | 4 => 4 | 0 => 0 | n => n, fun | n => n⟩
theorem Try.laysCompact : Go.Proofs.Lays2.n20 Try.prog Try.laysCompact_ren := {
  mixed := by kernel_rfl
  f20 := Try.func65.trans (congrArg some (by kernel_rfl))
  t0 := Try.underlying0
  a0 := Try.isAgg0
  z0 := Try.sizeOf0
  v0 := Try.zeroValue0
  t3 := Try.underlying3
  a3 := Try.isAgg3
  z3 := Try.sizeOf3
  v3 := Try.zeroValue3
  t4 := Try.underlying4
  a4 := Try.isAgg4
  z4 := Try.sizeOf4
  v4 := Try.zeroValue4
  t22 := Try.underlying26
  a22 := Try.isAgg26
  z22 := Try.sizeOf26
  v22 := Try.zeroValue26
  i3 := by kernel_rfl }
/-- Compact of the call's own whole numbers: without what stands beside its like (the shelf's contract). -/
def slices_Compact_int_int.f (l0 : List Int) : Option (List Int) := some (Go.Lib.compact l0)
set_option maxHeartbeats 8000000 in
set_option maxRecDepth 100000 in
open Go Go.Sort Go.Shelf in
theorem slices_Compact_int_int.calls (P0_ : Nat → Prop) (u9000_ : Value) (l0 : List Int) (r : List Int) (w0 w : World) (hB : Below w0.heap.size w0 w) (ho0 : Kd.R (Kd.int .i64) 3 w w0.heap.size P0_ u9000_ l0) (h : slices_Compact_int_int.f l0 = some r) :
    Calls Try.prog 65 #[u9000_] w fun e w' => ∃ v0_ : Value, e = .returned (v0_) ∧ Kd.R (Kd.int .i64) 3 w' w0.heap.size (fun k_ => (P0_ k_ ∨ w.heap.size ≤ k_)) v0_ r ∧ Below w0.heap.size w0 w' ∧ Kept w w' (fun k_ => P0_ k_) := by
  obtain rfl := Option.some.inj h
  clear h
  have ho : w.ownsRow w0.heap.size 3 1 u9000_ l0.length (l0.map (Value.int .i64)) := Kd.own_of_R (enc := Value.int .i64) (h1 := fun _ => rfl) ho0
  obtain ⟨hlen, ⟨rfl, h0⟩ | ⟨g, cap, cur, rfl, hbase, hb, h1, h2, h3, h4⟩⟩ := ho
  · obtain rfl : l0 = [] := List.eq_nil_of_length_eq_zero h0
    refine (Any.slices_Compact_int_empty Try.laysCompact none 0 w).mono ?_
    rintro e w' ⟨rfl, rfl⟩
    exact ⟨_, rfl, Kd.R_nil _ _ _ _ _, hB, Kept.refl _ _⟩
  · have hH : Holds (Value.int .i64) w g 0 l0.toArray := holds_of_blockI hb (by simpa using h4)
    have hgl : g < w.heap.size := (Array.getElem?_eq_some_iff.1 hb).1
    have hP : P0_ g := ho0.1 g (by simp [Value.ownBlock])
    refine (Any.slices_Compact_int Try.laysCompact g 0 cap l0 w hH (by unfold maxLen at h2; omega) h1).mono ?_
    rintro e w' ⟨rfl, q, rfl⟩
    have hle := Go.Lib.compact_length_le l0
    generalize Go.Lib.compact l0 = ts at hle ⊢
    have hl2 : (ts ++ List.replicate (l0.length - ts.length) (0 : Int)).length = l0.length := by simp; omega
    have hE := grow_empty (putRow (Value.int .i64) (Sort.ahead w q) g 0 (ts ++ List.replicate (l0.length - ts.length) (0 : Int)).toArray)
    rw [← hE]
    have hg := grownBy_sortedI (w := w) (g := g) (n := q) (os := #[]) (ts ++ List.replicate (l0.length - ts.length) (0 : Int)).toArray
    have hh := heap_sortedI (n := q) (os := #[]) (ts ++ List.replicate (l0.length - ts.length) (0 : Int)).toArray hb
    have ht := take_putCellsI cur (ts ++ List.replicate (l0.length - ts.length) (0 : Int)) (by rw [hl2]; omega)
    refine ⟨_, rfl, ?_, ⟨hg.os.trans hB.os, hg.tape.trans hB.tape, hg.output.trans hB.output, Nat.le_trans hB.size hg.size, fun k hk => ?_⟩, Kept.of_grown hg (Kept.refl w _) (fun k hk => ?_)⟩
    · refine Kd.R_of_own (enc := Value.int .i64) (h1 := fun _ => rfl) ⟨by simp [encs], .inr ⟨g, cap, _, rfl, hbase, hh, by omega, h2, by simp [putCells, h3], ?_⟩⟩ (fun k hk => .inl ?_)
      · have e := congrArg (List.take ts.length) ht
        rw [List.take_take, List.map_append, List.take_append_of_le_length (by simp), Nat.min_eq_left (by rw [hl2]; omega)] at e
        rw [Nat.mul_one, e, List.take_of_length_le (by simp)]
        rfl
      · obtain rfl : g = k := by simpa [Value.ownBlock] using hk
        exact hP
    · have hs := hB.size
      exact (hg.block k (by omega) (fun e => by cases e; omega)).trans (hB.block k hk)
    · cases hk
      exact .inl hP

/-! ### impl_RolesOf: function 20 -/
def impl_RolesOf.l0 : Nat → List (S78) → Int → Int → Int → List Int → List (S75) → Int → Int → Option (List Int)
  | 0, _, _, _, _, _, _, _, _ => none
  | k + 1, x0, x2, x3, x4, x11, x15, x16, x17 => if x17 < x16 then (if 0 ≤ x17 then (if x17 < (x15.length : Int) then (if ((rd_T75 x15 x17).f0) = 1 then (if ((rd_T75 x15 x17).f1) = x2 then ((impl_HoldsAt.f ((rd_T75 x15 x17).f0) ((rd_T75 x15 x17).f1) ((rd_T75 x15 x17).f2) ((rd_T75 x15 x17).f3) ((rd_T75 x15 x17).f4) ((rd_T75 x15 x17).f5) x3 x4).bind fun t140 => (if t140 = true then ((impl_RolesUnder.f k x0 ((rd_T75 x15 x17).f2)).bind fun t141 => (if x11.length + t141.length < 17592186044416 then (impl_RolesOf.l0 k x0 x2 x3 x4 (x11 ++ t141) x15 x16 (wrap64 (x17 + 1))) else (none))) else (impl_RolesOf.l0 k x0 x2 x3 x4 x11 x15 x16 (wrap64 (x17 + 1))))) else (impl_RolesOf.l0 k x0 x2 x3 x4 x11 x15 x16 (wrap64 (x17 + 1)))) else (impl_RolesOf.l0 k x0 x2 x3 x4 x11 x15 x16 (wrap64 (x17 + 1)))) else (none)) else (none)) else ((slices_Sort_int_int.f x11).bind fun t134 => ((slices_Compact_int_int.f t134).bind fun t135 => (some t135)))
def impl_RolesOf.f (k : Nat) (l0 : List (S78)) (l1 : List (S75)) (a2 : Int) (a3 : Int) (a4 : Int) : Option (List Int) := impl_RolesOf.l0 k l0 a2 a3 a4 (([] : List Int)) l1 (l1.length : Int) 0
theorem impl_RolesOf.mono_l : ∀ k, (∀ y0 y1 y2 y3 y4 y5 y6 y7, LeO (impl_RolesOf.l0 k y0 y1 y2 y3 y4 y5 y6 y7) (impl_RolesOf.l0 (k + 1) y0 y1 y2 y3 y4 y5 y6 y7))
  | 0 => fun _ _ _ _ _ _ _ _ r h => by simp [impl_RolesOf.l0] at h
  | k + 1 => by
    have ih0 := impl_RolesOf.mono_l k
    · intro y0 y1 y2 y3 y4 y5 y6 y7
      unfold impl_RolesOf.l0
      repeat' first
      | (with_reducible exact ih0 _ _ _ _ _ _ _ _)
      | (with_reducible exact impl_RolesUnder.mono _ _ _)
      | (with_reducible exact LeO.refl _)
      | (with_reducible exact LeO.none _)
      | (with_reducible refine LeO.ite ?_ ?_)
      | (with_reducible refine LeO.bind ?_ (fun _ => ?_))
      | exact ih0 _ _ _ _ _ _ _ _
      | exact impl_RolesUnder.mono _ _ _
      | exact LeO.none _
      | refine LeO.ite ?_ ?_
      | refine LeO.bind ?_ (fun _ => ?_)
theorem impl_RolesOf.mono : ∀ a0 a1 a2 a3 a4 k, LeO (impl_RolesOf.f k a0 a1 a2 a3 a4) (impl_RolesOf.f (k + 1) a0 a1 a2 a3 a4) := by
  intro a0 a1 a2 a3 a4 k
  have ih0 := impl_RolesOf.mono_l k
  unfold impl_RolesOf.f
  repeat' first
      | (with_reducible exact ih0 _ _ _ _ _ _ _ _)
      | (with_reducible exact impl_RolesUnder.mono _ _ _)
      | (with_reducible exact LeO.refl _)
      | (with_reducible exact LeO.none _)
      | (with_reducible refine LeO.ite ?_ ?_)
      | (with_reducible refine LeO.bind ?_ (fun _ => ?_))
      | exact ih0 _ _ _ _ _ _ _ _
      | exact impl_RolesUnder.mono _ _ _
      | exact LeO.none _
      | refine LeO.ite ?_ ?_
      | refine LeO.bind ?_ (fun _ => ?_)
theorem pR20_ {P Q : Prop} (h : P) (g : P → Q := by intro h_; (with_reducible repeat (first | apply Kd.R_alloc | apply Kd.R_drewN | apply Kd.R_drew)); exact h_) : Q := g h
theorem z20_0 {Q : Prop} (g : Q := by (with_reducible repeat (first | refine blk_drewN ?_ _ | refine blk_drew ?_ | refine blk_alloc ?_ _)); refine blk_put (cs := #[.int .i64 ((rd_T75 l1 x17_1).f0), .int .i64 ((rd_T75 l1 x17_1).f1), .int .i64 ((rd_T75 l1 x17_1).f2), .int .i64 ((rd_T75 l1 x17_1).f3), .int .i64 ((rd_T75 l1 x17_1).f4), .int .i64 0]) ?_ 5 _ rfl; (with_reducible repeat (first | refine blk_drewN ?_ _ | refine blk_drew ?_ | refine blk_alloc ?_ _)); refine blk_put (cs := #[.int .i64 ((rd_T75 l1 x17_1).f0), .int .i64 ((rd_T75 l1 x17_1).f1), .int .i64 ((rd_T75 l1 x17_1).f2), .int .i64 ((rd_T75 l1 x17_1).f3), .int .i64 0, .int .i64 0]) ?_ 4 _ rfl; (with_reducible repeat (first | refine blk_drewN ?_ _ | refine blk_drew ?_ | refine blk_alloc ?_ _)); refine blk_put (cs := #[.int .i64 ((rd_T75 l1 x17_1).f0), .int .i64 ((rd_T75 l1 x17_1).f1), .int .i64 ((rd_T75 l1 x17_1).f2), .int .i64 0, .int .i64 0, .int .i64 0]) ?_ 3 _ rfl; (with_reducible repeat (first | refine blk_drewN ?_ _ | refine blk_drew ?_ | refine blk_alloc ?_ _)); refine blk_put (cs := #[.int .i64 ((rd_T75 l1 x17_1).f0), .int .i64 ((rd_T75 l1 x17_1).f1), .int .i64 0, .int .i64 0, .int .i64 0, .int .i64 0]) ?_ 2 _ rfl; (with_reducible repeat (first | refine blk_drewN ?_ _ | refine blk_drew ?_ | refine blk_alloc ?_ _)); refine blk_put (cs := #[.int .i64 ((rd_T75 l1 x17_1).f0), .int .i64 0, .int .i64 0, .int .i64 0, .int .i64 0, .int .i64 0]) ?_ 1 _ rfl; (with_reducible repeat (first | refine blk_drewN ?_ _ | refine blk_drew ?_ | refine blk_alloc ?_ _)); refine blk_put (cs := #[.int .i64 0, .int .i64 0, .int .i64 0, .int .i64 0, .int .i64 0, .int .i64 0]) ?_ 0 _ rfl; (with_reducible repeat (first | refine blk_drewN ?_ _ | refine blk_drew ?_ | refine blk_alloc ?_ _)); exact BK139.out) : Q := g
theorem z20_1 {Q : Prop} (g : Q := by repeat (first | (with_reducible first | exact HB.out | apply bA_ | apply bN_ | apply bD_) | exact HB.out)) : Q := g
theorem z20_2 {Q : Prop} (g : Q := by repeat (first | (with_reducible first | exact HB.out | apply bA_ | apply bN_ | apply bD_ | refine bS_ ?_ GE139.out) | exact HB.out)) : Q := g
theorem z20_3 {Q : Prop} (g : Q := by (with_reducible repeat (first | apply Kd.R_alloc | apply Kd.R_drewN | apply Kd.R_drew)); exact (Kd.R_mono (Kd.R_far (p := ⟨gb139, 5, none⟩) (Kd.R_far (p := ⟨gb139, 4, none⟩) (Kd.R_far (p := ⟨gb139, 3, none⟩) (Kd.R_far (p := ⟨gb139, 2, none⟩) (Kd.R_far (p := ⟨gb139, 1, none⟩) (Kd.R_far (p := ⟨gb139, 0, none⟩) (Kd.R_types HO_11.out BK139.out (by decide)) (fun _ hk => hk.2) (.int .i64 ((rd_T75 l1 x17_1).f0))) (fun _ hk => hk.2) (.int .i64 ((rd_T75 l1 x17_1).f1))) (fun _ hk => hk.2) (.int .i64 ((rd_T75 l1 x17_1).f2))) (fun _ hk => hk.2) (.int .i64 ((rd_T75 l1 x17_1).f3))) (fun _ hk => hk.2) (.int .i64 ((rd_T75 l1 x17_1).f4))) (fun _ hk => hk.2) (.int .i64 ((rd_T75 l1 x17_1).f5))) (fun _ h_ => h_.1))) : Q := g
theorem z20_4 {Q : Prop} (g : Q := by first | (with_reducible assumption) | assumption) : Q := g
theorem z20_5 {Q : Prop} (g : Q := by (try simp only [List.map_toArray, List.map_cons, List.map_nil]); first | done | rfl | (simp only [List.length_drop, List.length_take]; rfl)) : Q := g
theorem z20_6 {Q : Prop} (g : Q := by rw [hg]; exact (below_size z20_1)) : Q := g
set_option maxHeartbeats 8000000 in
set_option maxRecDepth 100000 in
theorem impl_RolesOf.calls (k : Nat) (A0 : Option Addr) (c0 : Nat) (l0 : List (S78)) (A1 : Option Addr) (c1 : Nat) (l1 : List (S75)) (a2 : Int) (a3 : Int) (a4 : Int) (r : List Int) (w : World) (hr0 : Kd.C k78 w A0 l0.length l0) (hc0 : l0.length ≤ c0) (hr1 : Kd.C k75 w A1 l1.length l1) (hc1 : l1.length ≤ c1) (h : impl_RolesOf.f k l0 l1 a2 a3 a4 = some r) :
    Calls Try.prog 20 #[.slice A0 l0.length c0, .slice A1 l1.length c1, .int .i64 a2, .int .i64 a3, .int .i64 a4] w fun e w' => ∃ v0_ : Value, e = .returned (v0_) ∧ Kd.R (Kd.int .i64) 3 w' w.heap.size (fun _ => True) v0_ r ∧ Below w.heap.size w w' := by
  have hu75 := Try.underlying75
  have HR0 := Aside0.mk hr0
  have HC0 := Aside0.mk hc0
  clear hr0 hc0
  have HR1 := Aside0.mk hr1
  have HC1 := Aside0.mk hc1
  clear hr1 hc1
  have HB := Aside0.mk (Below.refl w.heap.size w)
  have H : (impl_RolesOf.l0 k l0 a2 a3 a4 (([] : List Int)) l1 (l1.length : Int) 0) = some r := h
  clear h
  obtain ⟨y131, hy131⟩ : ∃ y_ : List Int, y_ = (([] : List Int)) := ⟨_, rfl⟩
  replace H : (impl_RolesOf.l0 k l0 a2 a3 a4 y131 l1 (l1.length : Int) 0) = some r := by first | (rw [hy131]; with_reducible exact H) | (have H2_ := (Option.bind_some _ _).symm.trans H; rw [hy131]; with_reducible exact H2_) | (have H2_ := (Option.bind_some _ _).symm.trans H; with_reducible exact H2_) | with_reducible exact H | (rw [hy131]; exact H) | exact H
  have Ny131 := Aside0.mk hy131
  clear hy131
  have H' := Aside0.mk H
  clear H
  go_enter Try.func20, Try.ntmps20
  go_wp2_with (first | ((with_reducible refine gate_dst (N := 14) rfl ?_); refine Kd.R_lit (Kd.int .i64) _ 3 ?hg (N := 14) ?hd (xs := ([] : List Int)) (inner := []) (ok := fun _ => True) (okp := fun _ => True) ?hr ?hp (fun _ hk => hk) trivial (Below.refl _ _) (Nat.le_refl _) (by simp) ?_; (case hd => rfl); (case hg => rfl); (case hr => first | (go_simp; done) | (go_simp; rfl)); (case hp => exact (Reps.none _ _)); intro v132 w6 ho7 hb hg_ hnew_; clear hg_ hnew_; (first | rw [← Ny131.out] at ho7 | (simp only [Int.reduceToNat] at ho7; rw [← Ny131.out] at ho7)); have n0_ := Aside0.mk (Kd.R_lower ho7 (below_size z20_1)); have n1_ := Aside0.mk (below_step z20_1 hb); clear HB; have HO133 := n0_; have HB := n1_; clear n0_ n1_; clear hb ho7))
  go_loopg [11, 17] k (fun kq v11 v17 w' => ∃ (x11_1 : List Int) (x17_1 : Int), v17 = .int .i64 x17_1 ∧ Aside0 (impl_RolesOf.l0 kq l0 a2 a3 a4 x11_1 l1 (l1.length : Int) x17_1 = some r) ∧ Aside0 (kq ≤ k) ∧ Aside0 (Kd.R (Kd.int .i64) 3 w' w.heap.size (fun _ => True) v11 x11_1) ∧ Aside0 (Below w.heap.size w w'))
  case atStart => exact ⟨(y131), (0), (by first | rfl | (simp; done) | (simp [*]; done)), H', ⟨Nat.le_refl _⟩, ⟨by (with_reducible repeat (first | apply Kd.R_alloc | apply Kd.R_drewN | apply Kd.R_drew)); exact HO133.out⟩, ⟨by repeat (first | (with_reducible first | exact HB.out | apply bA_ | apply bN_ | apply bD_) | exact HB.out)⟩⟩
  case round =>
    clear H'
    try clear c1
    try clear c2
    try clear p2
    obtain ⟨x11_1, x17_1, rfl, HA, HK1, HO_11, HB⟩ := hrel
    cases gk with
    | zero => exact absurd HA.out (by simp [impl_RolesOf.l0])
    | succ k1 =>
      have H := HA.out
      clear HA
      simp only [impl_RolesOf.l0] at H
      by_cases c8 : x17_1 < (l1.length : Int)
      · rw [if_pos c8] at H
        have c8b0 : decide (x17_1 < (l1.length : Int)) = true := decide_eq_true c8
        clear c8
        by_cases c9 : 0 ≤ x17_1
        · rw [if_pos c9] at H
          have c9b0 : decide (0 ≤ x17_1) = true := decide_eq_true c9
          clear c9
          by_cases c10 : x17_1 < (l1.length : Int)
          · rw [if_pos c10] at H
            have c10b0 : decide (x17_1 < (l1.length : Int)) = true := decide_eq_true c10
            clear c10
            by_cases c11 : ((rd_T75 l1 x17_1).f0) = 1
            · rw [if_pos c11] at H
              have c11b0 : (((rd_T75 l1 x17_1).f0) == 1) = true := beq_iff_eq.mpr c11
              have c11b1 : (((rd_T75 l1 x17_1).f0) != 1) = false := bne_eq_false_iff_eq.mpr c11
              clear c11
              by_cases c12 : ((rd_T75 l1 x17_1).f1) = a2
              · rw [if_pos c12] at H
                have c12b0 : (((rd_T75 l1 x17_1).f1) == a2) = true := beq_iff_eq.mpr c12
                have c12b1 : (((rd_T75 l1 x17_1).f1) != a2) = false := bne_eq_false_iff_eq.mpr c12
                clear c12
                replace H := Option.bind_eq_some_iff.mp H
                obtain ⟨t140, A130, H⟩ := H
                replace H : (if t140 = true then ((impl_RolesUnder.f k1 l0 ((rd_T75 l1 x17_1).f2)).bind fun t141 => (if x11_1.length + t141.length < 17592186044416 then (impl_RolesOf.l0 k1 l0 a2 a3 a4 (x11_1 ++ t141) l1 (l1.length : Int) (wrap64 (x17_1 + 1))) else (none))) else (impl_RolesOf.l0 k1 l0 a2 a3 a4 x11_1 l1 (l1.length : Int) (wrap64 (x17_1 + 1)))) = some r := H
                have A13 := Aside0.mk A130
                clear A130
                by_cases c14 : t140 = true
                · subst c14
                  have H1 : ((impl_RolesUnder.f k1 l0 ((rd_T75 l1 x17_1).f2)).bind fun t141 => (if x11_1.length + t141.length < 17592186044416 then (impl_RolesOf.l0 k1 l0 a2 a3 a4 (x11_1 ++ t141) l1 (l1.length : Int) (wrap64 (x17_1 + 1))) else (none))) = some r := by rw [if_pos rfl] at H; exact H
                  clear H
                  have H := H1
                  clear H1
                  replace H := Option.bind_eq_some_iff.mp H
                  obtain ⟨t141, A150, H⟩ := H
                  replace H : (if x11_1.length + t141.length < 17592186044416 then (impl_RolesOf.l0 k1 l0 a2 a3 a4 (x11_1 ++ t141) l1 (l1.length : Int) (wrap64 (x17_1 + 1))) else (none)) = some r := H
                  have A15 := Aside0.mk A150
                  clear A150
                  by_cases c16 : x11_1.length + t141.length < 17592186044416
                  · rw [if_pos c16] at H
                    have LMc16 := Aside0.mk c16
                    clear c16
                    obtain ⟨y144, hy144⟩ : ∃ y_ : List Int, y_ = (x11_1 ++ t141) := ⟨_, rfl⟩
                    replace H : (impl_RolesOf.l0 k1 l0 a2 a3 a4 y144 l1 (l1.length : Int) (wrap64 (x17_1 + 1))) = some r := by first | (rw [hy144]; with_reducible exact H) | (have H2_ := (Option.bind_some _ _).symm.trans H; rw [hy144]; with_reducible exact H2_) | (have H2_ := (Option.bind_some _ _).symm.trans H; with_reducible exact H2_) | with_reducible exact H | (rw [hy144]; exact H) | exact H
                    have Ny144 := Aside0.mk hy144
                    clear hy144
                    have H' := Aside0.mk H
                    clear H
                    have p138 : 0 ≤ (x17_1 : Int) := of_decide_eq_true z20_4
                    have q138 : x17_1 < (l1.length : Int) := of_decide_eq_true z20_4
                    obtain ⟨ad138, e138, hx138_0, hx138_1, hx138_2, hx138_3, hx138_4, hx138_5⟩ := at_T75 HR1.out x17_1 p138 q138
                    cases e138
                    replace hx138_0 := (HB.out.cell (World.block_lt_of_cell? w _ hx138_0)).trans hx138_0
                    replace hx138_1 := (HB.out.cell (World.block_lt_of_cell? w _ hx138_1)).trans hx138_1
                    replace hx138_2 := (HB.out.cell (World.block_lt_of_cell? w _ hx138_2)).trans hx138_2
                    replace hx138_3 := (HB.out.cell (World.block_lt_of_cell? w _ hx138_3)).trans hx138_3
                    replace hx138_4 := (HB.out.cell (World.block_lt_of_cell? w _ hx138_4)).trans hx138_4
                    replace hx138_5 := (HB.out.cell (World.block_lt_of_cell? w _ hx138_5)).trans hx138_5
                    replace p138 := eq_true p138
                    replace q138 := eq_true q138
                    go_wp2_with (first | ((with_reducible refine gate_dst (N := 13) rfl ?_); refine box_event ?hg (N := 13) ?hd (cs := #[.int .i64 0, .int .i64 0, .int .i64 0, .int .i64 0, .int .i64 0, .int .i64 0]) (t := 75) ?hr ?_; (case hd => rfl); (case hg => rfl); (case hr => first | (go_simp; done) | (go_simp; rfl)); intro gb139 hg w17 hbox hb; have n0_ := Aside0.mk (Kd.R_below (pR20_ HO_11.out) hb); have n1_ := Aside0.mk (below_step z20_1 hb); have n2_ := Aside0.mk (hbox); have n3_ := Aside0.mk ((z20_6 : w.heap.size ≤ gb139)); have n4_ := Aside0.mk ((z20_6 : w.heap.size ≤ gb139)); clear HO_11; clear HB; have HO_11 := n0_; have HB := n1_; have BK139 := n2_; have GW139 := n3_; have GE139 := n4_; clear n0_ n1_ n2_ n3_ n4_; clear hb hbox hg; have hcz18_0 : w17.cell? ⟨gb139, 0, none⟩ = some (.int .i64 0) := (bC_ BK139.out 0).trans rfl; have hcz18_1 : w17.cell? ⟨gb139, 1, none⟩ = some (.int .i64 0) := (bC_ BK139.out 1).trans rfl; have hcz18_2 : w17.cell? ⟨gb139, 2, none⟩ = some (.int .i64 0) := (bC_ BK139.out 2).trans rfl; have hcz18_3 : w17.cell? ⟨gb139, 3, none⟩ = some (.int .i64 0) := (bC_ BK139.out 3).trans rfl; have hcz18_4 : w17.cell? ⟨gb139, 4, none⟩ = some (.int .i64 0) := (bC_ BK139.out 4).trans rfl; have hcz18_5 : w17.cell? ⟨gb139, 5, none⟩ = some (.int .i64 0) := (bC_ BK139.out 5).trans rfl; have hfz18_0 := bF_ BK139.out 0; have hfz18_1 := bF_ BK139.out 1; have hfz18_2 := bF_ BK139.out 2; have hfz18_3 := bF_ BK139.out 3; have hfz18_4 := bF_ BK139.out 4; have hfz18_5 := bF_ BK139.out 5) | (go_at_call 63; (with_reducible refine (impl_HoldsAt.calls ((rd_T75 l1 x17_1).f0) ((rd_T75 l1 x17_1).f1) ((rd_T75 l1 x17_1).f2) ((rd_T75 l1 x17_1).f3) ((rd_T75 l1 x17_1).f4) ((rd_T75 l1 x17_1).f5) a3 a4 true _ A13.out).mono ?_); rintro e w19 ⟨rfl, hb⟩; have n0_ := Aside0.mk (Kd.R_below z20_3 hb); have n1_ := Aside0.mk (blk_below (g := gb139) (o := .cells #[.int .i64 ((rd_T75 l1 x17_1).f0), .int .i64 ((rd_T75 l1 x17_1).f1), .int .i64 ((rd_T75 l1 x17_1).f2), .int .i64 ((rd_T75 l1 x17_1).f3), .int .i64 ((rd_T75 l1 x17_1).f4), .int .i64 ((rd_T75 l1 x17_1).f5)] 75 (0, 0)) z20_0 hb); have n2_ := Aside0.mk (below_step z20_2 hb); clear HO_11; clear BK139; clear HB; have HO_11 := n0_; have BK139 := n1_; have HB := n2_; clear n0_ n1_ n2_; (try clear hb); (try clear hb2); (try clear hk); (try clear hi); have hcz20_0 : w19.cell? ⟨gb139, 0, none⟩ = some (.int .i64 ((rd_T75 l1 x17_1).f0)) := (bC_ BK139.out 0).trans rfl; have hcz20_1 : w19.cell? ⟨gb139, 1, none⟩ = some (.int .i64 ((rd_T75 l1 x17_1).f1)) := (bC_ BK139.out 1).trans rfl; have hcz20_2 : w19.cell? ⟨gb139, 2, none⟩ = some (.int .i64 ((rd_T75 l1 x17_1).f2)) := (bC_ BK139.out 2).trans rfl; have hcz20_3 : w19.cell? ⟨gb139, 3, none⟩ = some (.int .i64 ((rd_T75 l1 x17_1).f3)) := (bC_ BK139.out 3).trans rfl; have hcz20_4 : w19.cell? ⟨gb139, 4, none⟩ = some (.int .i64 ((rd_T75 l1 x17_1).f4)) := (bC_ BK139.out 4).trans rfl; have hcz20_5 : w19.cell? ⟨gb139, 5, none⟩ = some (.int .i64 ((rd_T75 l1 x17_1).f5)) := (bC_ BK139.out 5).trans rfl; have hfz20_0 := bF_ BK139.out 0; have hfz20_1 := bF_ BK139.out 1; have hfz20_2 := bF_ BK139.out 2; have hfz20_3 := bF_ BK139.out 3; have hfz20_4 := bF_ BK139.out 4; have hfz20_5 := bF_ BK139.out 5) | ((with_reducible refine gate_callee (f := 33) rfl ?_); refine goesL_ (some 40) rfl rfl Try.func33 (by kernel_rfl) rfl #[.slice A0 l0.length c0, .int .i64 ((rd_T75 l1 x17_1).f2)] rfl z20_5 ?_; (with_reducible refine (impl_RolesUnder.calls k1 _ _ l0 ((rd_T75 l1 x17_1).f2) t141 _ ?side1 ?side2 A15.out).mono ?_); (case side1 => repeat (first | exact (Kd.C_below HR0.out HB.out) | (with_reducible refine Kd.C_alloc ?_ _) | (with_reducible refine Kd.C_drewN ?_ _) | (with_reducible refine Kd.C_drew ?_))); (case side2 => exact HC0.out); rintro e w21 ⟨v142, rfl, ho0, hb⟩; refine ⟨_, rfl, ?_⟩; have n0_ := Aside0.mk (Kd.R_elder' (pR20_ HO_11.out) (Kd.R_base ho0) hb); have n1_ := Aside0.mk (Kd.R_lower (Kd.R_new' ho0 (Kd.R_lt (pR20_ HO_11.out))) (below_size z20_2)); have n2_ := Aside0.mk (blk_below (g := gb139) (o := .cells #[.int .i64 ((rd_T75 l1 x17_1).f0), .int .i64 ((rd_T75 l1 x17_1).f1), .int .i64 ((rd_T75 l1 x17_1).f2), .int .i64 ((rd_T75 l1 x17_1).f3), .int .i64 ((rd_T75 l1 x17_1).f4), .int .i64 ((rd_T75 l1 x17_1).f5)] 75 (0, 0)) (by (with_reducible repeat (first | refine blk_drewN ?_ _ | refine blk_drew ?_ | refine blk_alloc ?_ _)); exact BK139.out) hb); have n3_ := Aside0.mk (below_step z20_2 hb); clear HO_11; clear BK139; clear HB; have HO_11 := n0_; have HO143 := n1_; have BK139 := n2_; have HB := n3_; clear n0_ n1_ n2_ n3_; (try clear hb); (try clear hb2); (try clear hk); (try clear hi); (try clear ho0); obtain ⟨Ao23, co23, eo23⟩ := Kd.R_slice HO143.out; subst eo23) | ((with_reducible refine gate_builtin (b := .append) (xs := #[.tmp 36, .tmp 40]) rfl ?_); at_builtin; refine Kd.R_append_rows (Kd.int .i64) (w0 := w) w.heap.size rfl (.tmp 36) (.tmp 40) 26 3 (.int .i64 0) 8 rfl Try.underlying26 info3 rfl (by decide) (by omega) u11 x11_1 t141 _ _ _ (fun k_ => some k_ ≠ (.slice Ao23 t141.length co23 : Value).ownBlock) (fun _ => False) rfl rfl ?aO ?aR (fun _ _ h => h) (fun _ h => h.elim) ?aF ?aB ?aS ?aL ?_; (case aR => repeat (first | exact (Kd.R_reads' HO143.out).2.2 | (with_reducible refine Kd.C_alloc ?_ _) | (with_reducible refine Kd.C_drewN ?_ _) | (with_reducible refine Kd.C_drew ?_))); (case aB => exact z20_2); (case aF => exact (fun k_ hk => Kd.fresh' (Kd.R_lt (pR20_ HO143.out)) k_ hk)); (case aO => exact (by (with_reducible repeat (first | apply Kd.R_alloc | apply Kd.R_drewN | apply Kd.R_drew)); exact Kd.R_mono HO_11.out (fun _ hk => hk.2))); (case aS => exact (below_size z20_2)); (case aL => have := LMc16.out; omega); intro v145 w22 ho hb hg hat; rw [← Ny144.out] at ho; have n0_ := Aside0.mk (blk_grown (g := gb139) (o := .cells #[.int .i64 ((rd_T75 l1 x17_1).f0), .int .i64 ((rd_T75 l1 x17_1).f1), .int .i64 ((rd_T75 l1 x17_1).f2), .int .i64 ((rd_T75 l1 x17_1).f3), .int .i64 ((rd_T75 l1 x17_1).f4), .int .i64 ((rd_T75 l1 x17_1).f5)] 75 (0, 0)) (by (with_reducible repeat (first | refine blk_drewN ?_ _ | refine blk_drew ?_ | refine blk_alloc ?_ _)); exact BK139.out) hg (Kd.R_ne HO_11.out BK139.out (by decide))); have n1_ := Aside0.mk (Kd.R_after (ok := (fun _ => True)) (pR20_ HO143.out) hg hat); have n2_ := Aside0.mk (hb); have n3_ := Aside0.mk (ho); clear BK139; clear HO143; clear HB; clear HO_11; have BK139 := n0_; have HO143 := n1_; have HB := n2_; have HO146 := n3_; clear n0_ n1_ n2_ n3_; clear ho hb hg hat))
                    go_roundg k1
                    case measure => have := HK1.out; omega
                    case rel => exact ⟨(y144), (wrap64 (x17_1 + 1)), (by first | rfl | (simp; done) | (simp [*]; done)), H', ⟨by have := HK1.out; omega⟩, ⟨by (with_reducible repeat (first | apply Kd.R_alloc | apply Kd.R_drewN | apply Kd.R_drew)); exact Kd.R_mono HO146.out (fun _ hk => trivial)⟩, ⟨by repeat (first | (with_reducible first | exact HB.out | apply bA_ | apply bN_ | apply bD_ | refine bS_ ?_ GE139.out) | exact HB.out)⟩⟩
                  · rw [if_neg c16] at H
                    exact absurd H (by simp)
                · replace c14 := Bool.eq_false_iff.mpr c14
                  subst c14
                  have H1 : (impl_RolesOf.l0 k1 l0 a2 a3 a4 x11_1 l1 (l1.length : Int) (wrap64 (x17_1 + 1))) = some r := by rw [if_neg (show ¬ (false = true) by decide)] at H; exact H
                  clear H
                  have H := H1
                  clear H1
                  have H' := Aside0.mk H
                  clear H
                  have p138 : 0 ≤ (x17_1 : Int) := of_decide_eq_true z20_4
                  have q138 : x17_1 < (l1.length : Int) := of_decide_eq_true z20_4
                  obtain ⟨ad138, e138, hx138_0, hx138_1, hx138_2, hx138_3, hx138_4, hx138_5⟩ := at_T75 HR1.out x17_1 p138 q138
                  cases e138
                  replace hx138_0 := (HB.out.cell (World.block_lt_of_cell? w _ hx138_0)).trans hx138_0
                  replace hx138_1 := (HB.out.cell (World.block_lt_of_cell? w _ hx138_1)).trans hx138_1
                  replace hx138_2 := (HB.out.cell (World.block_lt_of_cell? w _ hx138_2)).trans hx138_2
                  replace hx138_3 := (HB.out.cell (World.block_lt_of_cell? w _ hx138_3)).trans hx138_3
                  replace hx138_4 := (HB.out.cell (World.block_lt_of_cell? w _ hx138_4)).trans hx138_4
                  replace hx138_5 := (HB.out.cell (World.block_lt_of_cell? w _ hx138_5)).trans hx138_5
                  replace p138 := eq_true p138
                  replace q138 := eq_true q138
                  go_wp2_with (first | ((with_reducible refine gate_dst (N := 13) rfl ?_); refine box_event ?hg (N := 13) ?hd (cs := #[.int .i64 0, .int .i64 0, .int .i64 0, .int .i64 0, .int .i64 0, .int .i64 0]) (t := 75) ?hr ?_; (case hd => rfl); (case hg => rfl); (case hr => first | (go_simp; done) | (go_simp; rfl)); intro gb139 hg w24 hbox hb; have n0_ := Aside0.mk (Kd.R_below (pR20_ HO_11.out) hb); have n1_ := Aside0.mk (below_step z20_1 hb); have n2_ := Aside0.mk (hbox); have n3_ := Aside0.mk ((z20_6 : w.heap.size ≤ gb139)); have n4_ := Aside0.mk ((z20_6 : w.heap.size ≤ gb139)); clear HO_11; clear HB; have HO_11 := n0_; have HB := n1_; have BK139 := n2_; have GW139 := n3_; have GE139 := n4_; clear n0_ n1_ n2_ n3_ n4_; clear hb hbox hg; have hcz25_0 : w24.cell? ⟨gb139, 0, none⟩ = some (.int .i64 0) := (bC_ BK139.out 0).trans rfl; have hcz25_1 : w24.cell? ⟨gb139, 1, none⟩ = some (.int .i64 0) := (bC_ BK139.out 1).trans rfl; have hcz25_2 : w24.cell? ⟨gb139, 2, none⟩ = some (.int .i64 0) := (bC_ BK139.out 2).trans rfl; have hcz25_3 : w24.cell? ⟨gb139, 3, none⟩ = some (.int .i64 0) := (bC_ BK139.out 3).trans rfl; have hcz25_4 : w24.cell? ⟨gb139, 4, none⟩ = some (.int .i64 0) := (bC_ BK139.out 4).trans rfl; have hcz25_5 : w24.cell? ⟨gb139, 5, none⟩ = some (.int .i64 0) := (bC_ BK139.out 5).trans rfl; have hfz25_0 := bF_ BK139.out 0; have hfz25_1 := bF_ BK139.out 1; have hfz25_2 := bF_ BK139.out 2; have hfz25_3 := bF_ BK139.out 3; have hfz25_4 := bF_ BK139.out 4; have hfz25_5 := bF_ BK139.out 5) | (go_at_call 63; (with_reducible refine (impl_HoldsAt.calls ((rd_T75 l1 x17_1).f0) ((rd_T75 l1 x17_1).f1) ((rd_T75 l1 x17_1).f2) ((rd_T75 l1 x17_1).f3) ((rd_T75 l1 x17_1).f4) ((rd_T75 l1 x17_1).f5) a3 a4 false _ A13.out).mono ?_); rintro e w26 ⟨rfl, hb⟩; have n0_ := Aside0.mk (Kd.R_below z20_3 hb); have n1_ := Aside0.mk (blk_below (g := gb139) (o := .cells #[.int .i64 ((rd_T75 l1 x17_1).f0), .int .i64 ((rd_T75 l1 x17_1).f1), .int .i64 ((rd_T75 l1 x17_1).f2), .int .i64 ((rd_T75 l1 x17_1).f3), .int .i64 ((rd_T75 l1 x17_1).f4), .int .i64 ((rd_T75 l1 x17_1).f5)] 75 (0, 0)) z20_0 hb); have n2_ := Aside0.mk (below_step z20_2 hb); clear HO_11; clear BK139; clear HB; have HO_11 := n0_; have BK139 := n1_; have HB := n2_; clear n0_ n1_ n2_; (try clear hb); (try clear hb2); (try clear hk); (try clear hi)))
                  go_roundg k1
                  case measure => have := HK1.out; omega
                  case rel => exact ⟨(x11_1), (wrap64 (x17_1 + 1)), (by first | rfl | (simp; done) | (simp [*]; done)), H', ⟨by have := HK1.out; omega⟩, ⟨by (with_reducible repeat (first | apply Kd.R_alloc | apply Kd.R_drewN | apply Kd.R_drew)); exact HO_11.out⟩, ⟨by repeat (first | (with_reducible first | exact HB.out | apply bA_ | apply bN_ | apply bD_ | refine bS_ ?_ GE139.out) | exact HB.out)⟩⟩
              · rw [if_neg c12] at H
                have c12b0 : (((rd_T75 l1 x17_1).f1) == a2) = false := beq_eq_false_iff_ne.mpr c12
                have c12b1 : (((rd_T75 l1 x17_1).f1) != a2) = true := bne_iff_ne.mpr c12
                have H' := Aside0.mk H
                clear H
                have p138 : 0 ≤ (x17_1 : Int) := of_decide_eq_true z20_4
                have q138 : x17_1 < (l1.length : Int) := of_decide_eq_true z20_4
                obtain ⟨ad138, e138, hx138_0, hx138_1, hx138_2, hx138_3, hx138_4, hx138_5⟩ := at_T75 HR1.out x17_1 p138 q138
                cases e138
                replace hx138_0 := (HB.out.cell (World.block_lt_of_cell? w _ hx138_0)).trans hx138_0
                replace hx138_1 := (HB.out.cell (World.block_lt_of_cell? w _ hx138_1)).trans hx138_1
                replace hx138_2 := (HB.out.cell (World.block_lt_of_cell? w _ hx138_2)).trans hx138_2
                replace hx138_3 := (HB.out.cell (World.block_lt_of_cell? w _ hx138_3)).trans hx138_3
                replace hx138_4 := (HB.out.cell (World.block_lt_of_cell? w _ hx138_4)).trans hx138_4
                replace hx138_5 := (HB.out.cell (World.block_lt_of_cell? w _ hx138_5)).trans hx138_5
                replace p138 := eq_true p138
                replace q138 := eq_true q138
                go_wp2_with (first | ((with_reducible refine gate_dst (N := 13) rfl ?_); refine box_event ?hg (N := 13) ?hd (cs := #[.int .i64 0, .int .i64 0, .int .i64 0, .int .i64 0, .int .i64 0, .int .i64 0]) (t := 75) ?hr ?_; (case hd => rfl); (case hg => rfl); (case hr => first | (go_simp; done) | (go_simp; rfl)); intro gb139 hg w27 hbox hb; have n0_ := Aside0.mk (Kd.R_below (pR20_ HO_11.out) hb); have n1_ := Aside0.mk (below_step z20_1 hb); have n2_ := Aside0.mk (hbox); have n3_ := Aside0.mk ((z20_6 : w.heap.size ≤ gb139)); have n4_ := Aside0.mk ((z20_6 : w.heap.size ≤ gb139)); clear HO_11; clear HB; have HO_11 := n0_; have HB := n1_; have BK139 := n2_; have GW139 := n3_; have GE139 := n4_; clear n0_ n1_ n2_ n3_ n4_; clear hb hbox hg; have hcz28_0 : w27.cell? ⟨gb139, 0, none⟩ = some (.int .i64 0) := (bC_ BK139.out 0).trans rfl; have hcz28_1 : w27.cell? ⟨gb139, 1, none⟩ = some (.int .i64 0) := (bC_ BK139.out 1).trans rfl; have hcz28_2 : w27.cell? ⟨gb139, 2, none⟩ = some (.int .i64 0) := (bC_ BK139.out 2).trans rfl; have hcz28_3 : w27.cell? ⟨gb139, 3, none⟩ = some (.int .i64 0) := (bC_ BK139.out 3).trans rfl; have hcz28_4 : w27.cell? ⟨gb139, 4, none⟩ = some (.int .i64 0) := (bC_ BK139.out 4).trans rfl; have hcz28_5 : w27.cell? ⟨gb139, 5, none⟩ = some (.int .i64 0) := (bC_ BK139.out 5).trans rfl; have hfz28_0 := bF_ BK139.out 0; have hfz28_1 := bF_ BK139.out 1; have hfz28_2 := bF_ BK139.out 2; have hfz28_3 := bF_ BK139.out 3; have hfz28_4 := bF_ BK139.out 4; have hfz28_5 := bF_ BK139.out 5))
                go_roundg k1
                case measure => have := HK1.out; omega
                case rel => exact ⟨(x11_1), (wrap64 (x17_1 + 1)), (by first | rfl | (simp; done) | (simp [*]; done)), H', ⟨by have := HK1.out; omega⟩, ⟨by (with_reducible repeat (first | apply Kd.R_alloc | apply Kd.R_drewN | apply Kd.R_drew)); exact Kd.R_mono (Kd.R_far (p := ⟨gb139, 5, none⟩) (Kd.R_far (p := ⟨gb139, 4, none⟩) (Kd.R_far (p := ⟨gb139, 3, none⟩) (Kd.R_far (p := ⟨gb139, 2, none⟩) (Kd.R_far (p := ⟨gb139, 1, none⟩) (Kd.R_far (p := ⟨gb139, 0, none⟩) (Kd.R_types HO_11.out BK139.out (by decide)) (fun _ hk => hk.2) (.int .i64 ((rd_T75 l1 x17_1).f0))) (fun _ hk => hk.2) (.int .i64 ((rd_T75 l1 x17_1).f1))) (fun _ hk => hk.2) (.int .i64 ((rd_T75 l1 x17_1).f2))) (fun _ hk => hk.2) (.int .i64 ((rd_T75 l1 x17_1).f3))) (fun _ hk => hk.2) (.int .i64 ((rd_T75 l1 x17_1).f4))) (fun _ hk => hk.2) (.int .i64 ((rd_T75 l1 x17_1).f5))) (fun _ hk => trivial)⟩, ⟨by repeat (first | (with_reducible first | exact HB.out | apply bA_ | apply bN_ | apply bD_ | refine bS_ ?_ GE139.out) | exact HB.out)⟩⟩
            · rw [if_neg c11] at H
              have c11b0 : (((rd_T75 l1 x17_1).f0) == 1) = false := beq_eq_false_iff_ne.mpr c11
              have c11b1 : (((rd_T75 l1 x17_1).f0) != 1) = true := bne_iff_ne.mpr c11
              have H' := Aside0.mk H
              clear H
              have p138 : 0 ≤ (x17_1 : Int) := of_decide_eq_true z20_4
              have q138 : x17_1 < (l1.length : Int) := of_decide_eq_true z20_4
              obtain ⟨ad138, e138, hx138_0, hx138_1, hx138_2, hx138_3, hx138_4, hx138_5⟩ := at_T75 HR1.out x17_1 p138 q138
              cases e138
              replace hx138_0 := (HB.out.cell (World.block_lt_of_cell? w _ hx138_0)).trans hx138_0
              replace hx138_1 := (HB.out.cell (World.block_lt_of_cell? w _ hx138_1)).trans hx138_1
              replace hx138_2 := (HB.out.cell (World.block_lt_of_cell? w _ hx138_2)).trans hx138_2
              replace hx138_3 := (HB.out.cell (World.block_lt_of_cell? w _ hx138_3)).trans hx138_3
              replace hx138_4 := (HB.out.cell (World.block_lt_of_cell? w _ hx138_4)).trans hx138_4
              replace hx138_5 := (HB.out.cell (World.block_lt_of_cell? w _ hx138_5)).trans hx138_5
              replace p138 := eq_true p138
              replace q138 := eq_true q138
              go_wp2_with (first | ((with_reducible refine gate_dst (N := 13) rfl ?_); refine box_event ?hg (N := 13) ?hd (cs := #[.int .i64 0, .int .i64 0, .int .i64 0, .int .i64 0, .int .i64 0, .int .i64 0]) (t := 75) ?hr ?_; (case hd => rfl); (case hg => rfl); (case hr => first | (go_simp; done) | (go_simp; rfl)); intro gb139 hg w29 hbox hb; have n0_ := Aside0.mk (Kd.R_below (pR20_ HO_11.out) hb); have n1_ := Aside0.mk (below_step z20_1 hb); have n2_ := Aside0.mk (hbox); have n3_ := Aside0.mk ((z20_6 : w.heap.size ≤ gb139)); have n4_ := Aside0.mk ((z20_6 : w.heap.size ≤ gb139)); clear HO_11; clear HB; have HO_11 := n0_; have HB := n1_; have BK139 := n2_; have GW139 := n3_; have GE139 := n4_; clear n0_ n1_ n2_ n3_ n4_; clear hb hbox hg; have hcz30_0 : w29.cell? ⟨gb139, 0, none⟩ = some (.int .i64 0) := (bC_ BK139.out 0).trans rfl; have hcz30_1 : w29.cell? ⟨gb139, 1, none⟩ = some (.int .i64 0) := (bC_ BK139.out 1).trans rfl; have hcz30_2 : w29.cell? ⟨gb139, 2, none⟩ = some (.int .i64 0) := (bC_ BK139.out 2).trans rfl; have hcz30_3 : w29.cell? ⟨gb139, 3, none⟩ = some (.int .i64 0) := (bC_ BK139.out 3).trans rfl; have hcz30_4 : w29.cell? ⟨gb139, 4, none⟩ = some (.int .i64 0) := (bC_ BK139.out 4).trans rfl; have hcz30_5 : w29.cell? ⟨gb139, 5, none⟩ = some (.int .i64 0) := (bC_ BK139.out 5).trans rfl; have hfz30_0 := bF_ BK139.out 0; have hfz30_1 := bF_ BK139.out 1; have hfz30_2 := bF_ BK139.out 2; have hfz30_3 := bF_ BK139.out 3; have hfz30_4 := bF_ BK139.out 4; have hfz30_5 := bF_ BK139.out 5))
              go_roundg k1
              case measure => have := HK1.out; omega
              case rel => exact ⟨(x11_1), (wrap64 (x17_1 + 1)), (by first | rfl | (simp; done) | (simp [*]; done)), H', ⟨by have := HK1.out; omega⟩, ⟨by (with_reducible repeat (first | apply Kd.R_alloc | apply Kd.R_drewN | apply Kd.R_drew)); exact Kd.R_mono (Kd.R_far (p := ⟨gb139, 5, none⟩) (Kd.R_far (p := ⟨gb139, 4, none⟩) (Kd.R_far (p := ⟨gb139, 3, none⟩) (Kd.R_far (p := ⟨gb139, 2, none⟩) (Kd.R_far (p := ⟨gb139, 1, none⟩) (Kd.R_far (p := ⟨gb139, 0, none⟩) (Kd.R_types HO_11.out BK139.out (by decide)) (fun _ hk => hk.2) (.int .i64 ((rd_T75 l1 x17_1).f0))) (fun _ hk => hk.2) (.int .i64 ((rd_T75 l1 x17_1).f1))) (fun _ hk => hk.2) (.int .i64 ((rd_T75 l1 x17_1).f2))) (fun _ hk => hk.2) (.int .i64 ((rd_T75 l1 x17_1).f3))) (fun _ hk => hk.2) (.int .i64 ((rd_T75 l1 x17_1).f4))) (fun _ hk => hk.2) (.int .i64 ((rd_T75 l1 x17_1).f5))) (fun _ hk => trivial)⟩, ⟨by repeat (first | (with_reducible first | exact HB.out | apply bA_ | apply bN_ | apply bD_ | refine bS_ ?_ GE139.out) | exact HB.out)⟩⟩
          · rw [if_neg c10] at H
            exact absurd H (by simp)
        · rw [if_neg c9] at H
          exact absurd H (by simp)
      · rw [if_neg c8] at H
        have c8b0 : decide (x17_1 < (l1.length : Int)) = false := decide_eq_false c8
        clear c8
        replace H := Option.bind_eq_some_iff.mp H
        obtain ⟨t134, A310, H⟩ := H
        replace H : ((slices_Compact_int_int.f t134).bind fun t135 => (some t135)) = some r := H
        have A31 := Aside0.mk A310
        clear A310
        replace H := Option.bind_eq_some_iff.mp H
        obtain ⟨t135, A320, H⟩ := H
        replace H : (some t135) = some r := H
        have A32 := Aside0.mk A320
        clear A320
        obtain rfl := Option.some.inj H
        obtain ⟨Ao33, co33, eo33⟩ := Kd.R_slice HO_11.out
        subst eo33
        go_wp2_with (first | ((with_reducible refine gate_callee (f := 64) rfl ?_); refine goesL_ (some 44) rfl rfl Try.func64 (by kernel_rfl) rfl #[.slice Ao33 x11_1.length co33] rfl z20_5 ?_; (with_reducible refine (slices_Sort_int_int.calls (fun k_ => some k_ = (.slice Ao33 x11_1.length co33 : Value).ownBlock) (.slice Ao33 x11_1.length co33) x11_1 t134 w _ ?side1 ?side2 A31.out).mono ?_); (case side1 => repeat (first | (with_reducible first | exact HB.out | apply bA_ | apply bN_ | apply bD_) | exact HB.out)); (case side2 => exact Kd.R_tight rfl HO_11.out); rintro e w34 ⟨rfl, hy0, hb, hkp⟩; refine ⟨_, rfl, ?_⟩; have n0_ := Aside0.mk (Kd.R_reok rfl hy0 (fun k_ e_ => HO_11.out.1 k_ e_)); have n1_ := Aside0.mk (hb); clear HO_11; clear HB; have HO_11 := n0_; have HB := n1_; clear n0_ n1_; (try clear hb); (try clear hkp); (try clear hy0)) | ((with_reducible refine gate_callee (f := 65) rfl ?_); refine goesL_ (some 46) rfl rfl Try.func65 (by kernel_rfl) rfl #[.slice Ao33 x11_1.length co33] rfl z20_5 ?_; (with_reducible refine (slices_Compact_int_int.calls (fun k_ => some k_ = (.slice Ao33 x11_1.length co33 : Value).ownBlock) (.slice Ao33 x11_1.length co33) t134 t135 w _ ?side1 ?side2 A32.out).mono ?_); (case side1 => repeat (first | (with_reducible first | exact HB.out | apply bA_ | apply bN_ | apply bD_) | exact HB.out)); (case side2 => exact Kd.R_tight rfl HO_11.out); rintro e w35 ⟨v136, rfl, ho0, hb, hkp⟩; refine ⟨_, rfl, ?_⟩; have n0_ := Aside0.mk (Kd.R_mono (ok' := fun k_ => True) ho0 (fun k_ hk_ => trivial)); have n1_ := Aside0.mk (hb); clear HB; clear HO_11; have HO137 := n0_; have HB := n1_; clear n0_ n1_; (try clear hb); (try clear hkp); (try clear ho0)))
        go_ret
        exact ⟨_, by first | rfl | (simp [errW_none, errW_some] <;> rfl) | (simp [*, errW_none, errW_some] <;> rfl), by (with_reducible repeat (first | apply Kd.R_alloc | apply Kd.R_drewN | apply Kd.R_drew)); exact HO137.out, by repeat (first | (with_reducible first | exact HB.out | apply bA_ | apply bN_ | apply bD_) | exact HB.out)⟩

/-! ### impl_ArePairs: function 29 -/
def impl_ArePairs.g (k : Nat) (l0 : List S78) : List S78 → Option Bool
  | [] => some (decide ((l0.length : Int) ≤ 10))
  | x :: t => if 0 ≤ x.f0 ∧ x.f0 ≤ 5 then if 0 ≤ x.f1 ∧ x.f1 ≤ 5 then (impl_below.f k l0 x.f0).bind fun bs => if bs.length = 6 then (if bs.getD x.f0.toNat false = true then some false else impl_ArePairs.g k l0 t) else none else some false else some false
def impl_ArePairs.f (k : Nat) (l0 : List S78) : Option Bool := impl_ArePairs.g k l0 l0
theorem impl_ArePairs.mono_l (k : Nat) (l0 : List S78) : ∀ l, LeO (impl_ArePairs.g k l0 l) (impl_ArePairs.g (k + 1) l0 l) := by
  intro l
  induction l with
  | nil => exact LeO.refl _
  | cons x t ih =>
    intro r h
    rw [impl_ArePairs.g] at h ⊢
    by_cases h0 : 0 ≤ x.f0 ∧ x.f0 ≤ 5
    · rw [if_pos h0] at h ⊢
      by_cases h1 : 0 ≤ x.f1 ∧ x.f1 ≤ 5
      · rw [if_pos h1] at h ⊢
        cases hb : impl_below.f k l0 x.f0 with
        | none => rw [hb] at h; cases h
        | some bs =>
          rw [hb, Option.bind_some] at h
          rw [impl_below.mono l0 x.f0 k _ hb, Option.bind_some]
          by_cases h6 : bs.length = 6
          · rw [if_pos h6] at h ⊢
            by_cases hx : bs.getD x.f0.toNat false = true
            · rw [if_pos hx] at h ⊢
              exact h
            · rw [if_neg hx] at h ⊢
              exact ih r h
          · rw [if_neg h6] at h
            cases h
      · rw [if_neg h1] at h ⊢
        exact h
    · rw [if_neg h0] at h ⊢
      exact h
theorem impl_ArePairs.mono : ∀ a0 k, LeO (impl_ArePairs.f k a0) (impl_ArePairs.f (k + 1) a0) := fun a0 k => impl_ArePairs.mono_l k a0 a0
set_option maxHeartbeats 8000000 in
set_option maxRecDepth 100000 in
theorem impl_ArePairs.calls (k : Nat) (A0 : Option Addr) (c0 : Nat) (l0 : List S78) (r : Bool) (w : World) (hr0 : Kd.C k78 w A0 l0.length l0) (hc0 : l0.length ≤ c0) (h : impl_ArePairs.f k l0 = some r) :
    Calls Try.prog 29 #[.slice A0 l0.length c0] w fun e w' => e = .returned (.bool r) ∧ Below w.heap.size w w' := by
  have HR0 := Aside0.mk hr0
  have HC0 := Aside0.mk hc0
  have hlen := Kd.C_max hr0
  have HL := Aside0.mk hlen
  clear hr0 hc0 hlen
  unfold impl_ArePairs.f at h
  have HH := Aside0.mk h
  clear h
  have HB := Aside0.mk (Below.refl w.heap.size w)
  have hisrole : ∀ z : Int, impl_isRole.f z = some (decide (0 ≤ z ∧ z ≤ 5)) := by
    intro z
    unfold impl_isRole.f impl_InRange.f
    by_cases h : 0 ≤ z
    · rw [if_pos h]; simp [h]
    · rw [if_neg h]; simp [h]
  go_enter Try.func29, Try.ntmps29
  go_wp2
  go_loopg [7] l0.length (fun gg v7 w' => ∃ (a' b : List S78), Aside0 (l0 = a' ++ b) ∧ b.length ≤ gg ∧ v7 = .int .i64 (a'.length : Int) ∧ Aside0 (impl_ArePairs.g k l0 b = some r) ∧ Aside0 (Below w.heap.size w w'))
  case atStart => exact ⟨[], l0, ⟨rfl⟩, Nat.le_refl _, rfl, HH, HB⟩
  case round =>
    clear HB HH
    obtain ⟨a', b, hl, hgg, rfl, HG, HB⟩ := hrel
    cases b with
    | nil =>
      have hd : decide ((a'.length : Int) < (l0.length : Int)) = false := decide_eq_false (by rw [hl.out]; simp)
      have hd2 : ((a'.length : Int) < (l0.length : Int)) = False := eq_false (by rw [hl.out]; simp)
      have hd3 : (a'.length < l0.length) = False := eq_false (by rw [hl.out]; simp)
      go_wp2
      go_ret
      have hg := HG.out
      rw [impl_ArePairs.g] at hg
      obtain rfl := Option.some.inj hg
      exact ⟨rfl, HB.out⟩
    | cons x b =>
      have hlt : (a'.length : Int) < (l0.length : Int) := by rw [hl.out]; simp; omega
      have hd : decide ((a'.length : Int) < (l0.length : Int)) = true := decide_eq_true hlt
      have hxx : rd_T78 l0 (a'.length : Int) = x := by
        unfold rd_T78
        rw [Int.toNat_natCast, hl.out, List.getD_eq_getElem?_getD, List.getElem?_append_right (Nat.le_refl _), Nat.sub_self]
        rfl
      obtain ⟨ad2, e2, hx0, hx1⟩ := at_T78 HR0.out (a'.length : Int) (by omega) hlt
      cases e2
      rw [hxx] at hx0 hx1
      replace hx0 := (HB.out.cell (World.block_lt_of_cell? w _ hx0)).trans hx0
      replace hx1 := (HB.out.cell (World.block_lt_of_cell? w _ hx1)).trans hx1
      have hlt' := eq_true hlt
      simp only [Int.toNat_natCast] at hx0 hx1
      cases gk with
      | zero => exact absurd hgg (by simp)
      | succ g1 =>
      have hg := HG.out
      clear HG
      rw [impl_ArePairs.g] at hg
      have hr0 := hisrole x.f0
      have hr1 := hisrole x.f1
      by_cases c0' : 0 ≤ x.f0 ∧ x.f0 ≤ 5
      · rw [if_pos c0'] at hg
        rw [decide_eq_true c0'] at hr0
        by_cases c1 : 0 ≤ x.f1 ∧ x.f1 ≤ 5
        · rw [if_pos c1] at hg
          rw [decide_eq_true c1] at hr1
          cases hq : impl_below.f k l0 x.f0 with
          | none => rw [hq] at hg; cases hg
          | some bs =>
          rw [hq, Option.bind_some] at hg
          by_cases hbl : bs.length = 6
          · rw [if_pos hbl] at hg
            obtain ⟨b0, b1, b2, b3, b4, b5, rfl⟩ : ∃ b0 b1 b2 b3 b4 b5, bs = [b0, b1, b2, b3, b4, b5] := by
              match bs, hbl with
              | [b0, b1, b2, b3, b4, b5], _ => exact ⟨b0, b1, b2, b3, b4, b5, rfl⟩
            have HQ := Aside0.mk hq
            clear hq hbl
            have hix : ∀ W : World, (Instr.index 89 (.agg (arrV [b0, b1, b2, b3, b4, b5])) (.int .i64 x.f0)).run Try.prog W = .ok (.bool ([b0, b1, b2, b3, b4, b5].getD x.f0.toNat false)) W := by
              intro W
              generalize x.f0 = v at c0' ⊢
              have : v = 0 ∨ v = 1 ∨ v = 2 ∨ v = 3 ∨ v = 4 ∨ v = 5 := by omega
              rcases this with rfl | rfl | rfl | rfl | rfl | rfl <;> (simp [Instr.index, run_underlying Try.underlying89, asIntOf, arrV, go_sem]; done)
            clear c0' c1
            generalize [b0, b1, b2, b3, b4, b5].getD x.f0.toNat false = bb at hix hg
            cases bb with
            | true =>
              rw [if_pos rfl] at hg
              have HG := Aside0.mk hg
              clear hg
              go_wp2_with (first | ((with_reducible refine gate_dst (N := 4) rfl ?_); refine box_event ?hg (N := 4) ?hd (cs := #[.int .i64 0, .int .i64 0]) (t := 78) ?hr ?_; (case hd => rfl); (case hg => rfl); (case hr => first | (go_simp; done) | (go_simp; rfl)); intro gx hgx w4 hbx hb4; have BX := Aside0.mk hbx; have HB4 := Aside0.mk (below_step HB.out hb4); have GX := Aside0.mk ((by rw [hgx]; exact below_size HB.out : w.heap.size ≤ gx)); clear HB hbx hb4 hgx; have hcx0 : w4.cell? ⟨gx, 0, none⟩ = some (.int .i64 0) := (bC_ BX.out 0).trans rfl; have hcx1 : w4.cell? ⟨gx, 1, none⟩ = some (.int .i64 0) := (bC_ BX.out 1).trans rfl; have hfx0 := bF_ BX.out 0; have hfx1 := bF_ BX.out 1))
              go_region_with (first | (go_at_call 70; refine (impl_isRole.calls x.f0 true _ hr0).mono ?_; rintro e w' ⟨rfl, ⟨nd, rfl⟩⟩) | (go_at_call 70; refine (impl_isRole.calls x.f1 true _ hr1).mono ?_; rintro e w' ⟨rfl, ⟨nd, rfl⟩⟩) | (go_at_call 71; refine (impl_below.calls k _ _ l0 x.f0 [b0, b1, b2, b3, b4, b5] _ (Kd.C_below HR0.out (by repeat (first | (with_reducible first | exact HB4.out | apply bA_ | apply bN_ | apply bD_ | refine bS_ ?_ GX.out) | exact HB4.out))) HC0.out HQ.out).mono ?_; rintro e w10 ⟨rfl, hb'⟩; have HB10 := Aside0.mk (below_step (by repeat (first | (with_reducible first | exact HB4.out | apply bA_ | apply bN_ | apply bD_ | refine bS_ ?_ GX.out) | exact HB4.out)) hb'); have hcy : w10.cell? ⟨gx, 0, none⟩ = some (.int .i64 x.f0) := (bC_ (t := 78) (cs := #[.int .i64 x.f0, .int .i64 x.f1]) (blk_below (by (with_reducible repeat (first | refine blk_drewN ?_ _ | refine blk_drew ?_ | refine blk_alloc ?_ _)); exact blk_put (cs := #[.int .i64 x.f0, .int .i64 0]) (blk_put (cs := #[.int .i64 0, .int .i64 0]) BX.out 0 _ rfl) 1 _ rfl) hb') 0).trans rfl; clear hb'))
              all_goals (go_wp2; go_ret; exact ⟨Option.some.inj HG.out ▸ rfl, HB10.out⟩)
            | false =>
              rw [if_neg (by simp)] at hg
              have HG := Aside0.mk hg
              clear hg
              go_wp2_with (first | ((with_reducible refine gate_dst (N := 4) rfl ?_); refine box_event ?hg (N := 4) ?hd (cs := #[.int .i64 0, .int .i64 0]) (t := 78) ?hr ?_; (case hd => rfl); (case hg => rfl); (case hr => first | (go_simp; done) | (go_simp; rfl)); intro gx hgx w4 hbx hb4; have BX := Aside0.mk hbx; have HB4 := Aside0.mk (below_step HB.out hb4); have GX := Aside0.mk ((by rw [hgx]; exact below_size HB.out : w.heap.size ≤ gx)); clear HB hbx hb4 hgx; have hcx0 : w4.cell? ⟨gx, 0, none⟩ = some (.int .i64 0) := (bC_ BX.out 0).trans rfl; have hcx1 : w4.cell? ⟨gx, 1, none⟩ = some (.int .i64 0) := (bC_ BX.out 1).trans rfl; have hfx0 := bF_ BX.out 0; have hfx1 := bF_ BX.out 1))
              go_region_with (first | (go_at_call 70; refine (impl_isRole.calls x.f0 true _ hr0).mono ?_; rintro e w' ⟨rfl, ⟨nd, rfl⟩⟩) | (go_at_call 70; refine (impl_isRole.calls x.f1 true _ hr1).mono ?_; rintro e w' ⟨rfl, ⟨nd, rfl⟩⟩) | (go_at_call 71; refine (impl_below.calls k _ _ l0 x.f0 [b0, b1, b2, b3, b4, b5] _ (Kd.C_below HR0.out (by repeat (first | (with_reducible first | exact HB4.out | apply bA_ | apply bN_ | apply bD_ | refine bS_ ?_ GX.out) | exact HB4.out))) HC0.out HQ.out).mono ?_; rintro e w10 ⟨rfl, hb'⟩; have HB10 := Aside0.mk (below_step (by repeat (first | (with_reducible first | exact HB4.out | apply bA_ | apply bN_ | apply bD_ | refine bS_ ?_ GX.out) | exact HB4.out)) hb'); have hcy : w10.cell? ⟨gx, 0, none⟩ = some (.int .i64 x.f0) := (bC_ (t := 78) (cs := #[.int .i64 x.f0, .int .i64 x.f1]) (blk_below (by (with_reducible repeat (first | refine blk_drewN ?_ _ | refine blk_drew ?_ | refine blk_alloc ?_ _)); exact blk_put (cs := #[.int .i64 x.f0, .int .i64 0]) (blk_put (cs := #[.int .i64 0, .int .i64 0]) BX.out 0 _ rfl) 1 _ rfl) hb') 0).trans rfl; clear hb'))
              all_goals (go_wp2; go_roundg g1; (case measure => omega); (case rel => exact ⟨a' ++ [x], b, ⟨by rw [hl.out]; simp⟩, by simp at hgg; omega, by have := HL.out; rw [List.length_append]; unfold wrap64; rw [hl.out] at this; simp at this ⊢; omega, HG, HB10⟩))
          · rw [if_neg hbl] at hg
            cases hg
        · rw [if_neg c1] at hg
          rw [decide_eq_false c1] at hr1
          have HG := Aside0.mk hg
          clear hg c0' c1
          go_wp2_with (first | ((with_reducible refine gate_dst (N := 4) rfl ?_); refine box_event ?hg (N := 4) ?hd (cs := #[.int .i64 0, .int .i64 0]) (t := 78) ?hr ?_; (case hd => rfl); (case hg => rfl); (case hr => first | (go_simp; done) | (go_simp; rfl)); intro gx hgx w4 hbx hb4; have BX := Aside0.mk hbx; have HB4 := Aside0.mk (below_step HB.out hb4); have GX := Aside0.mk ((by rw [hgx]; exact below_size HB.out : w.heap.size ≤ gx)); clear HB hbx hb4 hgx; have hcx0 : w4.cell? ⟨gx, 0, none⟩ = some (.int .i64 0) := (bC_ BX.out 0).trans rfl; have hcx1 : w4.cell? ⟨gx, 1, none⟩ = some (.int .i64 0) := (bC_ BX.out 1).trans rfl; have hfx0 := bF_ BX.out 0; have hfx1 := bF_ BX.out 1))
          repeat (go_quiet (first | (go_at_call 70; refine (impl_isRole.calls x.f0 true _ hr0).mono ?_; rintro e w' ⟨rfl, ⟨nd, rfl⟩⟩; (try first | exact ⟨rfl, _, World.drewN_drewN _ _ _⟩ | exact ⟨rfl, _, Eq.trans (World.drewN_drewN _ _ _) (congrArg (World.drewN _) (Nat.add_assoc _ _ _))⟩)) | (go_at_call 70; refine (impl_isRole.calls x.f1 false _ hr1).mono ?_; rintro e w' ⟨rfl, ⟨nd, rfl⟩⟩; (try first | exact ⟨rfl, _, World.drewN_drewN _ _ _⟩ | exact ⟨rfl, _, Eq.trans (World.drewN_drewN _ _ _) (congrArg (World.drewN _) (Nat.add_assoc _ _ _))⟩))); try go_wp2)
          go_ret
          have hg := HG.out
          obtain rfl := Option.some.inj hg
          exact ⟨rfl, (by repeat (first | (with_reducible first | exact HB4.out | apply bA_ | apply bN_ | apply bD_ | refine bS_ ?_ GX.out) | exact HB4.out))⟩
      · rw [if_neg c0'] at hg
        rw [decide_eq_false c0'] at hr0
        have HG := Aside0.mk hg
        clear hg c0'
        go_wp2_with (first | ((with_reducible refine gate_dst (N := 4) rfl ?_); refine box_event ?hg (N := 4) ?hd (cs := #[.int .i64 0, .int .i64 0]) (t := 78) ?hr ?_; (case hd => rfl); (case hg => rfl); (case hr => first | (go_simp; done) | (go_simp; rfl)); intro gx hgx w4 hbx hb4; have BX := Aside0.mk hbx; have HB4 := Aside0.mk (below_step HB.out hb4); have GX := Aside0.mk ((by rw [hgx]; exact below_size HB.out : w.heap.size ≤ gx)); clear HB hbx hb4 hgx; have hcx0 : w4.cell? ⟨gx, 0, none⟩ = some (.int .i64 0) := (bC_ BX.out 0).trans rfl; have hcx1 : w4.cell? ⟨gx, 1, none⟩ = some (.int .i64 0) := (bC_ BX.out 1).trans rfl; have hfx0 := bF_ BX.out 0; have hfx1 := bF_ BX.out 1))
        repeat (go_quiet (first | (go_at_call 70; refine (impl_isRole.calls x.f0 false _ hr0).mono ?_; rintro e w' ⟨rfl, ⟨nd, rfl⟩⟩; (try first | exact ⟨rfl, _, World.drewN_drewN _ _ _⟩ | exact ⟨rfl, _, Eq.trans (World.drewN_drewN _ _ _) (congrArg (World.drewN _) (Nat.add_assoc _ _ _))⟩))); try go_wp2)
        go_ret
        have hg := HG.out
        obtain rfl := Option.some.inj hg
        exact ⟨rfl, (by repeat (first | (with_reducible first | exact HB4.out | apply bA_ | apply bN_ | apply bD_ | refine bS_ ?_ GX.out) | exact HB4.out))⟩

-- NOT PRINTED: function 102 (impl_Includes_102)

-- NOT PRINTED: function 72 (impl_Includes_72)

/-! ### impl_TopRoles: function 31 -/
/-- The first index of l at which p, or -1. -/
def impl_TopRoles.idx (p : S78 → Bool) (l : List S78) : Int := ((List.range l.length).find? fun i => p (l.getD i z78)).elim (-1) fun i => (i : Int)
theorem impl_TopRoles.idx_hit (p : S78 → Bool) (l : List S78) (i : Nat) (hi : i < l.length) (hp : p (l.getD i z78) = true) (hn : ∀ j, j < i → p (l.getD j z78) = false) : impl_TopRoles.idx p l = (i : Int) := by
  have hf : ((List.range l.length).find? fun i => p (l.getD i z78)) = some i := by
    rw [List.find?_range_eq_some]
    exact ⟨hp, by simpa using hi, fun j hj => by simpa using hn j hj⟩
  unfold impl_TopRoles.idx
  rw [hf]
  rfl
theorem impl_TopRoles.idx_miss (p : S78 → Bool) (l : List S78) (hn : ∀ j, j < l.length → p (l.getD j z78) = false) : impl_TopRoles.idx p l = -1 := by
  have hf : ((List.range l.length).find? fun i => p (l.getD i z78)) = none := by
    rw [List.find?_eq_none]
    intro x hx
    have := hn x (by simpa using hx)
    simpa using this
  unfold impl_TopRoles.idx
  rw [hf]
  rfl
theorem impl_TopRoles.idx_cases (p : S78 → Bool) (l : List S78) : impl_TopRoles.idx p l = -1 ∨ ∃ i : Nat, i < l.length ∧ impl_TopRoles.idx p l = (i : Int) := by
  unfold impl_TopRoles.idx
  cases hf : (List.range l.length).find? fun i => p (l.getD i z78) with
  | none => exact .inl rfl
  | some i =>
    rw [List.find?_range_eq_some] at hf
    exact .inr ⟨i, by simpa using hf.2.1, rfl⟩
def impl_TopRoles.out (serial : Int) (x : S78) : Bool := x.f1 == serial
set_option maxRecDepth 100000 in
set_option maxHeartbeats 1000000 in
theorem impl_TopRoles.closure (x : S78) (serial : Int) (B1 : Nat) (W : World) (h1 : W.cell? ⟨B1, 0, none⟩ = some (.int .i64 serial)) :
    Calls Try.prog 73 #[.agg #[.int .i64 x.f0, .int .i64 x.f1], .pointer (some ⟨B1, 0, none⟩)] W fun e w' => e = .returned (.bool (impl_TopRoles.out serial x)) ∧ Below W.heap.size W w' := by
  have hu := Try.underlying78
  have hb := World.block_lt_of_cell? W _ h1
  have hne : B1 ≠ W.heap.size := by have hb' : B1 < W.heap.size := hb; omega
  have hb1 : B1 < W.heap.size := hb
  clear hb
  unfold impl_TopRoles.out
  go_enter Try.func73, Try.ntmps73
  go_wp2
  go_ret
  exact ⟨rfl, (Below.refl _ _).alloc (Nat.le_refl _) _⟩
set_option maxRecDepth 100000 in
set_option maxHeartbeats 4000000 in
theorem impl_TopRoles.indexFunc (A : Option Addr) (c : Nat) (l : List S78) (serial : Int) (B1 : Nat) (w : World) (hr : Kd.C k78 w A l.length l) (h1 : w.cell? ⟨B1, 0, none⟩ = some (.int .i64 serial))  :
    Calls Try.prog 102 #[.slice A l.length c, .func (.func 73) #[] #[.pointer (some ⟨B1, 0, none⟩)]] w fun e w' => e = .returned (.int .i64 (impl_TopRoles.idx (impl_TopRoles.out serial) l)) ∧ Below w.heap.size w w' := by
  have hu := Try.underlying78
  have hb1 := World.block_lt_of_cell? w _ h1
  have HR := Aside0.mk hr
  have hmax : l.length ≤ 9223372036854775807 := Kd.C_max hr
  clear hr
  have H1 := Aside0.mk h1
  clear h1
  have HB1 := Aside0.mk hb1
  clear hb1
  go_enter Try.func102, Try.ntmps102
  go_wp2
  go_loopg [5, 8] l.length (fun gg _ s8 wr => ∃ kk : Nat, kk ≤ l.length ∧ l.length - kk ≤ gg ∧ s8 = .int .i64 kk ∧ Aside0 (Below w.heap.size w wr) ∧ Aside0 (∀ j, j < kk → impl_TopRoles.out serial (l.getD j z78) = false))
  case atStart => exact ⟨0, Nat.zero_le _, by omega, rfl, ⟨Below.refl _ w⟩, ⟨fun j hj => absurd hj (Nat.not_lt_zero _)⟩⟩
  case round =>
    obtain ⟨kk, hkk, hg, rfl, BW, AA⟩ := hrel
    by_cases hlt : kk < l.length
    · have hltz : (kk : Int) < (l.length : Int) := by omega
      obtain ⟨ad, e, hx0, hx1⟩ := at_T78 HR.out (kk : Int) (by omega) hltz
      subst e
      replace hx0 := (BW.out.cell (World.block_lt_of_cell? w _ hx0)).trans hx0
      replace hx1 := (BW.out.cell (World.block_lt_of_cell? w _ hx1)).trans hx1
      simp only [Int.toNat_natCast] at hx0 hx1
      have hcall := impl_TopRoles.closure (rd_T78 l (kk : Int)) serial B1 wr ((BW.out.cell (p := ⟨B1, 0, none⟩) HB1.out).trans H1.out) 
      have hrd : rd_T78 l (kk : Int) = l.getD kk z78 := by unfold rd_T78; rw [Int.toNat_natCast]
      generalize hy : rd_T78 l (kk : Int) = y at hx0 hx1 hcall hrd
      clear hy
      have HY := Aside0.mk hrd
      clear hrd
      cases hq : impl_TopRoles.out serial y with
      | true =>
        rw [hq] at hcall
        have HQ := Aside0.mk hq
        clear hq
        go_wp2_with (first | (go_at_call 73; refine hcall.mono ?_; rintro e w' ⟨rfl, hb'⟩))
        go_ret
        exact ⟨by rw [impl_TopRoles.idx_hit (impl_TopRoles.out serial) l kk hlt (by rw [← HY.out]; exact HQ.out) AA.out]; rfl, below_then BW.out BW.out.size hb'⟩
      | false =>
        rw [hq] at hcall
        have HQ := Aside0.mk hq
        clear hq
        go_wp2_with (first | (go_at_call 73; refine hcall.mono ?_; rintro e w' ⟨rfl, hb'⟩))
        go_roundg (l.length - (kk + 1))
        case measure => omega
        case rel =>
          refine ⟨kk + 1, by omega, by omega, by go_num, ⟨below_then BW.out BW.out.size hb'⟩, ⟨fun j hj => ?_⟩⟩
          rcases Nat.lt_succ_iff_lt_or_eq.1 hj with hj | rfl
          · exact AA.out j hj
          · rw [← HY.out]; exact HQ.out
    · have hltz : ¬ (kk : Int) < (l.length : Int) := by omega
      obtain rfl : kk = l.length := by omega
      go_wp2
      go_ret
      exact ⟨by rw [impl_TopRoles.idx_miss (impl_TopRoles.out serial) l AA.out]; rfl, BW.out⟩
set_option maxRecDepth 100000 in
set_option maxHeartbeats 1000000 in
theorem impl_TopRoles.containsFunc (A : Option Addr) (c : Nat) (l : List S78) (serial : Int) (B1 : Nat) (w : World) (hr : Kd.C k78 w A l.length l) (h1 : w.cell? ⟨B1, 0, none⟩ = some (.int .i64 serial)) :
    Calls Try.prog 72 #[.slice A l.length c, .func (.func 73) #[] #[.pointer (some ⟨B1, 0, none⟩)]] w fun e w' => e = .returned (.bool (decide (0 ≤ impl_TopRoles.idx (impl_TopRoles.out serial) l))) ∧ Below w.heap.size w w' := by
  have hcall := impl_TopRoles.indexFunc A c l serial B1 w hr h1
  clear hr h1
  generalize impl_TopRoles.idx (impl_TopRoles.out serial) l = r at hcall ⊢
  go_enter Try.func72, Try.ntmps72
  go_wp2_with (first | (go_at_call 102; refine hcall.mono ?_; rintro e w' ⟨rfl, hb'⟩))
  go_ret
  exact ⟨rfl, hb'⟩
/-- The roles from v on, d of them, that nothing holds. -/
def impl_TopRoles.g (l0 : List S78) : Nat → Int → List Int → List Int
  | 0, _, out => out
  | d + 1, v, out => impl_TopRoles.g l0 d (v + 1) (if 0 ≤ impl_TopRoles.idx (impl_TopRoles.out v) l0 then out else out ++ [v])
def impl_TopRoles.f (l0 : List S78) : Option (List Int) := some (impl_TopRoles.g l0 6 0 [])
set_option maxHeartbeats 8000000 in
set_option maxRecDepth 100000 in
theorem impl_TopRoles.calls (A0 : Option Addr) (c0 : Nat) (l0 : List S78) (r : List Int) (w : World) (hr0 : Kd.C k78 w A0 l0.length l0) (hc0 : l0.length ≤ c0) (h : impl_TopRoles.f l0 = some r) :
    Calls Try.prog 31 #[.slice A0 l0.length c0] w fun e w' => ∃ v0_ : Value, e = .returned (v0_) ∧ Kd.R (Kd.int .i64) 3 w' w.heap.size (fun _ => True) v0_ r ∧ Below w.heap.size w w' := by
  have HH := Aside0.mk (Option.some.inj h)
  clear h
  have HR0 := Aside0.mk hr0
  clear hr0 hc0
  have HB := Aside0.mk (Below.refl w.heap.size w)
  go_enter Try.func31, Try.ntmps31
  go_wp2_with (first | ((with_reducible refine gate_dst (N := 5) rfl ?_); refine Kd.R_lit (Kd.int .i64) _ 3 ?hg (N := 5) ?hd (xs := ([] : List Int)) (inner := []) (ok := fun _ => True) (okp := fun _ => True) ?hr ?hp (fun _ hk => hk) trivial (Below.refl _ _) (Nat.le_refl _) (by simp) ?_; (case hd => rfl); (case hg => rfl); (case hr => first | (go_simp; done) | (go_simp; rfl)); (case hp => exact (Reps.none _ _)); intro v123 w2 ho3 hb hg_ hnew_; clear hg_ hnew_; have n0_ := Aside0.mk (Kd.R_lower ho3 (below_size (by repeat (first | (with_reducible first | exact HB.out | apply bA_ | apply bN_ | apply bD_) | exact HB.out)))); have n1_ := Aside0.mk (below_step (by repeat (first | (with_reducible first | exact HB.out | apply bA_ | apply bN_ | apply bD_) | exact HB.out)) hb); clear HB; have HO := n0_; have HB := n1_; clear n0_ n1_; clear hb ho3))
  go_loopg [3, 6] 6 (fun kq v3 v6 w' => ∃ (x : List Int) (v : Int), v6 = .int .i64 v ∧ Aside0 (impl_TopRoles.g l0 kq v x = r) ∧ Aside0 (v = 6 - (kq : Int) ∧ kq ≤ 6) ∧ Aside0 (Kd.R (Kd.int .i64) 3 w' w.heap.size (fun _ => True) v3 x) ∧ Aside0 (Below w.heap.size w w') ∧ Aside0 (x.length ≤ 6 - kq))
  case atStart => exact ⟨[], 0, rfl, HH, ⟨by omega⟩, ⟨by (with_reducible repeat (first | apply Kd.R_alloc | apply Kd.R_drewN | apply Kd.R_drew)); exact HO.out⟩, ⟨by repeat (first | (with_reducible first | exact HB.out | apply bA_ | apply bN_ | apply bD_) | exact HB.out)⟩, ⟨by simp⟩⟩
  case round =>
    obtain ⟨x, v, rfl, HG, HV, HO, HB, HXL⟩ := hrel
    cases gk with
    | zero =>
      have hv : decide (v < 6) = false := decide_eq_false (by have := HV.out; omega)
      go_wp2
      go_ret
      have hg := HG.out
      simp only [impl_TopRoles.g] at hg
      subst hg
      exact ⟨_, rfl, by (with_reducible repeat (first | apply Kd.R_alloc | apply Kd.R_drewN | apply Kd.R_drew)); exact HO.out, by repeat (first | (with_reducible first | exact HB.out | apply bA_ | apply bN_ | apply bD_) | exact HB.out)⟩
    | succ k1 =>
      have hv : decide (v < 6) = true := decide_eq_true (by have := HV.out; omega)
      have hw : IntKind.i64.wrap (v + 1) = v + 1 := by rw [IntKind.wrap_i64]; have := HV.out; omega
      have hcall := fun (B1 : Nat) (W : World) (h1 : W.cell? ⟨B1, 0, none⟩ = some (.int .i64 v)) (hc : Kd.C k78 W A0 l0.length l0) => impl_TopRoles.containsFunc A0 c0 l0 v B1 W hc h1
      have hg := HG.out
      clear HG
      simp only [impl_TopRoles.g] at hg
      by_cases hq : 0 ≤ impl_TopRoles.idx (impl_TopRoles.out v) l0
      · rw [if_pos hq] at hg
        rw [decide_eq_true hq] at hcall
        have HG := Aside0.mk hg
        clear hq hg
        go_wp2_with (first | ((with_reducible refine gate_dst (N := 4) rfl ?_); refine box_event ?hg (N := 4) ?hd (cs := #[.int .i64 0]) (t := 3) ?hr ?_; (case hd => rfl); (case hg => rfl); (case hr => first | (go_simp; done) | (go_simp; rfl)); intro gb hg w9 hbox hb; have HO9 := Aside0.mk (Kd.R_below (Kd.R_elderB (by (with_reducible repeat (first | apply Kd.R_alloc | apply Kd.R_drewN | apply Kd.R_drew)); exact HO.out) gb (Nat.le_of_eq hg.symm)) hb); have HB9 := Aside0.mk (below_step (by repeat (first | (with_reducible first | exact HB.out | apply bA_ | apply bN_ | apply bD_) | exact HB.out)) hb); have BK := Aside0.mk hbox; have GE := Aside0.mk ((by rw [hg]; exact (below_size (by repeat (first | (with_reducible first | exact HB.out | apply bA_ | apply bN_ | apply bD_) | exact HB.out))) : w.heap.size ≤ gb)); clear HO HB; clear hb hbox hg; have hcz : w9.cell? ⟨gb, 0, none⟩ = some (.int .i64 0) := (bC_ BK.out 0).trans rfl; have hfz := bF_ BK.out 0) | (go_at_call 72; refine (hcall gb (w9.setCell ⟨gb, 0, none⟩ (.int .i64 v)) ((bC_ (t := 3) (cs := #[.int .i64 v]) (by refine blk_put (cs := #[.int .i64 0]) ?_ 0 _ rfl; exact BK.out) 0).trans rfl) (Kd.C_below HR0.out (bS_ HB9.out GE.out))).mono ?_; rintro e w10 ⟨rfl, hb'⟩; have hx : (w9.setCell ⟨gb, 0, none⟩ (.int .i64 v)).cell? ⟨gb, 0, none⟩ = some (.int .i64 v) := ((bC_ (t := 3) (cs := #[.int .i64 v]) (by refine blk_put (cs := #[.int .i64 0]) ?_ 0 _ rfl; exact BK.out) 0).trans rfl); have hcy : w10.cell? ⟨gb, 0, none⟩ = some (.int .i64 v) := (hb'.cell (World.block_lt_of_cell? _ _ hx)).trans hx; have HB10 := Aside0.mk (below_step (bS_ HB9.out GE.out) hb'); have HO10 := Aside0.mk (Kd.R_mono (Kd.R_below (Kd.R_far (p := ⟨gb, 0, none⟩) HO9.out (fun _ hk => hk.2) (.int .i64 v)) hb') (ok' := fun _ => True) (fun _ _ => trivial)); clear hb' hx hcz hfz))
        go_roundg k1
        case measure => omega
        case rel => exact ⟨x, v + 1, (by first | rfl | go_num | (simp [*]; done)), HG, ⟨by have := HV.out; omega⟩, ⟨by (with_reducible repeat (first | apply Kd.R_alloc | apply Kd.R_drewN | apply Kd.R_drew)); exact HO10.out⟩, ⟨by repeat (first | (with_reducible first | exact HB10.out | apply bA_ | apply bN_ | apply bD_ | refine bS_ ?_ GE.out) | exact HB10.out)⟩, ⟨by have := HXL.out; omega⟩⟩
      · rw [if_neg hq] at hg
        rw [decide_eq_false hq] at hcall
        have HG := Aside0.mk hg
        clear hq hg
        go_wp2_with (first | ((with_reducible refine gate_dst (N := 4) rfl ?_); refine box_event ?hg (N := 4) ?hd (cs := #[.int .i64 0]) (t := 3) ?hr ?_; (case hd => rfl); (case hg => rfl); (case hr => first | (go_simp; done) | (go_simp; rfl)); intro gb hg w9 hbox hb; have HO9 := Aside0.mk (Kd.R_below (Kd.R_elderB (by (with_reducible repeat (first | apply Kd.R_alloc | apply Kd.R_drewN | apply Kd.R_drew)); exact HO.out) gb (Nat.le_of_eq hg.symm)) hb); have HB9 := Aside0.mk (below_step (by repeat (first | (with_reducible first | exact HB.out | apply bA_ | apply bN_ | apply bD_) | exact HB.out)) hb); have BK := Aside0.mk hbox; have GE := Aside0.mk ((by rw [hg]; exact (below_size (by repeat (first | (with_reducible first | exact HB.out | apply bA_ | apply bN_ | apply bD_) | exact HB.out))) : w.heap.size ≤ gb)); clear HO HB; clear hb hbox hg; have hcz : w9.cell? ⟨gb, 0, none⟩ = some (.int .i64 0) := (bC_ BK.out 0).trans rfl; have hfz := bF_ BK.out 0) | (go_at_call 72; refine (hcall gb (w9.setCell ⟨gb, 0, none⟩ (.int .i64 v)) ((bC_ (t := 3) (cs := #[.int .i64 v]) (by refine blk_put (cs := #[.int .i64 0]) ?_ 0 _ rfl; exact BK.out) 0).trans rfl) (Kd.C_below HR0.out (bS_ HB9.out GE.out))).mono ?_; rintro e w10 ⟨rfl, hb'⟩; have hx : (w9.setCell ⟨gb, 0, none⟩ (.int .i64 v)).cell? ⟨gb, 0, none⟩ = some (.int .i64 v) := ((bC_ (t := 3) (cs := #[.int .i64 v]) (by refine blk_put (cs := #[.int .i64 0]) ?_ 0 _ rfl; exact BK.out) 0).trans rfl); have hcy : w10.cell? ⟨gb, 0, none⟩ = some (.int .i64 v) := (hb'.cell (World.block_lt_of_cell? _ _ hx)).trans hx; have HB10 := Aside0.mk (below_step (bS_ HB9.out GE.out) hb'); have HO10 := Aside0.mk (Kd.R_mono (Kd.R_below (Kd.R_far (p := ⟨gb, 0, none⟩) HO9.out (fun _ hk => hk.2) (.int .i64 v)) hb') (ok' := fun _ => True) (fun _ _ => trivial)); clear hb' hx hcz hfz) | ((with_reducible refine gate_builtin (b := .append) (xs := #[.tmp 13, .tmp 15]) rfl ?_); at_builtin; refine Kd.R_append (Kd.int .i64) (w0 := w) w.heap.size rfl (.tmp 13) (.tmp 15) 26 3 (.int .i64 0) 8 rfl Try.underlying26 info3 rfl (by decide) (by omega) u3 x v [.int .i64 v] (fun _ => True) (fun _ => False) rfl rfl ?aP (fun _ hk => hk.elim) ?aF ?aO ?aB ?aS ?aL ?_; (case aP => exact rfl); (case aB => exact (by repeat (first | (with_reducible first | exact HB10.out | apply bA_ | apply bN_ | apply bD_ | refine bS_ ?_ GE.out) | exact HB10.out))); (case aF => exact (fun _ _ => trivial)); (case aO => exact (by (with_reducible repeat (first | apply Kd.R_alloc | apply Kd.R_drewN | apply Kd.R_drew)); exact HO10.out)); (case aS => exact (below_size (by repeat (first | (with_reducible first | exact HB10.out | apply bA_ | apply bN_ | apply bD_ | refine bS_ ?_ GE.out) | exact HB10.out)))); (case aL => have := HXL.out; omega); intro v127 w11 ho hb hg hat; have HB11 := Aside0.mk hb; have HO11 := Aside0.mk ho; clear ho hb hg hat))
        go_roundg k1
        case measure => omega
        case rel => exact ⟨x ++ [v], v + 1, (by first | rfl | go_num | (simp [*]; done)), HG, ⟨by have := HV.out; omega⟩, ⟨by (with_reducible repeat (first | apply Kd.R_alloc | apply Kd.R_drewN | apply Kd.R_drew)); exact HO11.out⟩, ⟨by repeat (first | (with_reducible first | exact HB11.out | apply bA_ | apply bN_ | apply bD_ | refine bS_ ?_ GE.out) | exact HB11.out)⟩, ⟨by have := HXL.out; rw [List.length_append]; simp; have := HV.out; omega⟩⟩

/-! ### spec_l1In: function 68 -/
def spec_l1In.f (a0 : Int) (a1 : Int) (a2 : Int) : Option (Bool) := if a0 ≥ a1 then (some (decide (a0 ≤ a2))) else (some false)
set_option maxHeartbeats 8000000 in
set_option maxRecDepth 100000 in
theorem spec_l1In.calls (a0 : Int) (a1 : Int) (a2 : Int) (r : Bool) (w : World) (h : spec_l1In.f a0 a1 a2 = some r) :
    Calls Try.prog 68 #[.int .i64 a0, .int .i64 a1, .int .i64 a2] w fun e w' => e = .returned (.bool r) ∧ Drawn0 w w' := by
  have H : (if a0 ≥ a1 then (some (decide (a0 ≤ a2))) else (some false)) = some r := h
  clear h
  by_cases c4 : a0 ≥ a1
  · rw [if_pos c4] at H
    have c4b0 : decide (a1 ≤ a0) = true := decide_eq_true c4
    clear c4
    obtain rfl := Option.some.inj H
    go_enter Try.func68, Try.ntmps68
    go_wp2
    go_ret
    exact ⟨by first | rfl | (simp; done) | (simp [*]; done), by repeat (first | exact Drawn0.refl _ | apply Drawn0.step)⟩
  · rw [if_neg c4] at H
    have c4b0 : decide (a1 ≤ a0) = false := decide_eq_false c4
    clear c4
    obtain rfl := Option.some.inj H
    go_enter Try.func68, Try.ntmps68
    go_wp2
    go_ret
    exact ⟨by first | rfl | (simp; done) | (simp [*]; done), by repeat (first | exact Drawn0.refl _ | apply Drawn0.step)⟩

end Go.Proofs.Ytgmgoabohppkeaa.XFnRoles
