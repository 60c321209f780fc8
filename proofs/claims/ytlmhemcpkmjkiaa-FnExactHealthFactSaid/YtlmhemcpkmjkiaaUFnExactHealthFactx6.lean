/- Written by this session's own program (wip/xprint, which runs over the kit's print): what the functions that the law reaches come to, each proved; and the law's row. Conditions: none. -/
import Derived.Test.YtlmhemcpkmjkiaaUFnExactHealthFactx0
import Derived.Test.YtlmhemcpkmjkiaaUFnExactHealthFactx3
import Derived.Test.YtlmhemcpkmjkiaaUFnExactHealthFactx4
import Derived.Test.YtlmhemcpkmjkiaaUFnExactHealthFactx5
namespace Go.Proofs.Ytlmhemcpkmjkiaa.XFnExactHealthFact
open Go.RowKit Go.Proofs.YtlmhemcpkmjkiaaW.PrintWords Go.Proofs.YtlmhemcpkmjkiaaW.PrintLast Go.Proofs.YtlmhemcpkmjkiaaW.PrintMore
attribute [local go_sem] max2_int min2_int max_two min_two max_three min_three max_four min_four   -- for this text's walks alone
set_option linter.unusedVariables false
set_option linter.unusedSimpArgs false

/-! ### impl_HealthFact: function 62 -/
def impl_HealthFact.f (k : Nat) (a0_0 : Int) (l0_1 : List Int) (l0_2 : List Int) (l0_3 : List Int) (a1 : Int) (a2_0 : Int) (a2_1 : Int) (a2_2 : Int) (a2_3 : Int) (a2_4 : Int) (l3 : List Int) (a4 : Int) (a5 : Int) (a6 : Int) : Option (Int × Int × Int × Int × Int × Int × Bool) := (impl_AppraiseLog.f k a0_0 l0_1 l0_2 l0_3 l3).bind fun t219 => ((impl_EndOf.f a5 a6).bind fun t220 => ((impl_CheckQuote.f k a1 a2_0 a2_1 a2_2 a2_3 a2_4 l3 a4 a5 5).bind fun t222 => (if t222 = true then ((impl_IsFact.f 3 a2_0 t219 1 a5 t220).bind fun t223 => (if t223 = true then (some (3, a2_0, t219, 1, a5, t220, true)) else (some (0, 0, 0, 0, 0, 0, false)))) else (some (0, 0, 0, 0, 0, 0, false)))))
def impl_HealthFact.T1 : Bool × List (List Nat × List Nat) := (true, [([], []), ([0], [0]), ([], []), ([], []), ([2, 3], [2, 3]), ([], []), ([], []), ([], []), ([6, 7, 4], [6, 7]), ([1, 4, 5, 8], [1, 4, 5, 8]), ([], []), ([10, 9, 8, 0, 1, 2, 3, 4, 5, 6, 7, 8, 9, 10], [9, 10])])
def impl_HealthFact.B1 : List Nat := [0, 1, 0, 0, 12, 0, 0, 0, 220, 511, 0, 2047]
theorem impl_HealthFact.tab1 : rtab .any (opsOf Try.f62 1) = impl_HealthFact.T1 := by kernel_rfl
theorem impl_HealthFact.bits1 : waitsOk impl_HealthFact.T1.2 impl_HealthFact.B1 = true := by kernel_rfl
theorem pB62_ {P Q : Prop} (h : P) (g : P → Q := by intro h_; (with_reducible repeat (first | refine blk_drewN ?_ _ | refine blk_drew ?_ | refine blk_alloc ?_ _)); exact h_) : Q := g h
theorem z62_0 {Q : Prop} (g : Q := by repeat (first | (with_reducible first | exact HB.out | apply below_alloc | apply pw_below_drewN | apply below_drew1 | refine below_set ?_ GE216.out | refine below_set ?_ GE217.out | refine below_set ?_ GE218.out) | exact HB.out)) : Q := g
theorem z62_1 {Q : Prop} (g : Q := by repeat (first | (with_reducible first | exact HB.out | apply below_alloc | apply pw_below_drewN | apply below_drew1 | refine below_set ?_ GE216.out | refine below_set ?_ GE217.out | refine below_set ?_ GE218.out | refine below_set ?_ GE221.out) | exact HB.out)) : Q := g
theorem z62_2 {Q : Prop} (g : Q := by (with_reducible repeat (first | refine blk_drewN ?_ _ | refine blk_drew ?_ | refine blk_alloc ?_ _)); refine blk_put (cs := #[.int .i64 3, .int .i64 a2_0, .int .i64 t219, .int .i64 1, .int .i64 a5, .int .i64 0]) ?_ 5 _ rfl; (with_reducible repeat (first | refine blk_drewN ?_ _ | refine blk_drew ?_ | refine blk_alloc ?_ _)); refine blk_put (cs := #[.int .i64 3, .int .i64 a2_0, .int .i64 t219, .int .i64 1, .int .i64 0, .int .i64 0]) ?_ 4 _ rfl; (with_reducible repeat (first | refine blk_drewN ?_ _ | refine blk_drew ?_ | refine blk_alloc ?_ _)); refine blk_put (cs := #[.int .i64 3, .int .i64 a2_0, .int .i64 t219, .int .i64 0, .int .i64 0, .int .i64 0]) ?_ 3 _ rfl; (with_reducible repeat (first | refine blk_drewN ?_ _ | refine blk_drew ?_ | refine blk_alloc ?_ _)); refine blk_put (cs := #[.int .i64 3, .int .i64 a2_0, .int .i64 0, .int .i64 0, .int .i64 0, .int .i64 0]) ?_ 2 _ rfl; (with_reducible repeat (first | refine blk_drewN ?_ _ | refine blk_drew ?_ | refine blk_alloc ?_ _)); refine blk_put (cs := #[.int .i64 3, .int .i64 0, .int .i64 0, .int .i64 0, .int .i64 0, .int .i64 0]) ?_ 1 _ rfl; (with_reducible repeat (first | refine blk_drewN ?_ _ | refine blk_drew ?_ | refine blk_alloc ?_ _)); refine blk_put (cs := #[.int .i64 0, .int .i64 0, .int .i64 0, .int .i64 0, .int .i64 0, .int .i64 0]) ?_ 0 _ rfl; (with_reducible repeat (first | refine blk_drewN ?_ _ | refine blk_drew ?_ | refine blk_alloc ?_ _)); exact BK221.out) : Q := g
theorem z62_3 {Q : Prop} (g : Q := by rw [hg]; exact Nat.ne_of_lt (blk_lt (g := gb216) (o := .cells #[.int .i64 a0_0, .slice A0_1 l0_1.length c0_1, .slice A0_2 l0_2.length c0_2, .slice A0_3 l0_3.length c0_3] 33 (0, 0)) (pB62_ BK216.out))) : Q := g
theorem z62_4 {Q : Prop} (g : Q := by rw [hg]; exact Nat.ne_of_gt (blk_lt (g := gb216) (o := .cells #[.int .i64 a0_0, .slice A0_1 l0_1.length c0_1, .slice A0_2 l0_2.length c0_2, .slice A0_3 l0_3.length c0_3] 33 (0, 0)) (pB62_ BK216.out))) : Q := g
theorem z62_5 {Q : Prop} (g : Q := by (try simp only [List.map_toArray, List.map_cons, List.map_nil]); first | done | rfl | (simp only [List.length_drop, List.length_take]; rfl)) : Q := g
theorem z62_6 {Q : Prop} (g : Q := by rw [hg]; exact Nat.ne_of_lt (blk_lt (g := gb217) (o := .cells #[.int .i64 a2_0, .int .i64 a2_1, .int .i64 a2_2, .int .i64 a2_3, .int .i64 a2_4] 45 (0, 0)) (pB62_ BK217.out))) : Q := g
theorem z62_7 {Q : Prop} (g : Q := by rw [hg]; exact Nat.ne_of_gt (blk_lt (g := gb217) (o := .cells #[.int .i64 a2_0, .int .i64 a2_1, .int .i64 a2_2, .int .i64 a2_3, .int .i64 a2_4] 45 (0, 0)) (pB62_ BK217.out))) : Q := g
theorem z62_8 {Q : Prop} (g : Q := by (with_reducible repeat (first | refine blk_drewN ?_ _ | refine blk_drew ?_ | refine blk_alloc ?_ _)); refine blk_far ?_ NB218_221.out _; (with_reducible repeat (first | refine blk_drewN ?_ _ | refine blk_drew ?_ | refine blk_alloc ?_ _)); refine blk_far ?_ NB218_221.out _; (with_reducible repeat (first | refine blk_drewN ?_ _ | refine blk_drew ?_ | refine blk_alloc ?_ _)); refine blk_far ?_ NB218_221.out _; (with_reducible repeat (first | refine blk_drewN ?_ _ | refine blk_drew ?_ | refine blk_alloc ?_ _)); refine blk_far ?_ NB218_221.out _; (with_reducible repeat (first | refine blk_drewN ?_ _ | refine blk_drew ?_ | refine blk_alloc ?_ _)); refine blk_far ?_ NB218_221.out _; (with_reducible repeat (first | refine blk_drewN ?_ _ | refine blk_drew ?_ | refine blk_alloc ?_ _)); refine blk_far ?_ NB218_221.out _; (with_reducible repeat (first | refine blk_drewN ?_ _ | refine blk_drew ?_ | refine blk_alloc ?_ _)); exact BK218.out) : Q := g
theorem z62_9 {Q : Prop} (g : Q := by (with_reducible repeat (first | refine blk_drewN ?_ _ | refine blk_drew ?_ | refine blk_alloc ?_ _)); refine blk_far ?_ NB217_221.out _; (with_reducible repeat (first | refine blk_drewN ?_ _ | refine blk_drew ?_ | refine blk_alloc ?_ _)); refine blk_far ?_ NB217_221.out _; (with_reducible repeat (first | refine blk_drewN ?_ _ | refine blk_drew ?_ | refine blk_alloc ?_ _)); refine blk_far ?_ NB217_221.out _; (with_reducible repeat (first | refine blk_drewN ?_ _ | refine blk_drew ?_ | refine blk_alloc ?_ _)); refine blk_far ?_ NB217_221.out _; (with_reducible repeat (first | refine blk_drewN ?_ _ | refine blk_drew ?_ | refine blk_alloc ?_ _)); refine blk_far ?_ NB217_221.out _; (with_reducible repeat (first | refine blk_drewN ?_ _ | refine blk_drew ?_ | refine blk_alloc ?_ _)); refine blk_far ?_ NB217_221.out _; (with_reducible repeat (first | refine blk_drewN ?_ _ | refine blk_drew ?_ | refine blk_alloc ?_ _)); exact BK217.out) : Q := g
theorem z62_10 {Q : Prop} (g : Q := by (with_reducible repeat (first | refine blk_drewN ?_ _ | refine blk_drew ?_ | refine blk_alloc ?_ _)); refine blk_far ?_ NB216_221.out _; (with_reducible repeat (first | refine blk_drewN ?_ _ | refine blk_drew ?_ | refine blk_alloc ?_ _)); refine blk_far ?_ NB216_221.out _; (with_reducible repeat (first | refine blk_drewN ?_ _ | refine blk_drew ?_ | refine blk_alloc ?_ _)); refine blk_far ?_ NB216_221.out _; (with_reducible repeat (first | refine blk_drewN ?_ _ | refine blk_drew ?_ | refine blk_alloc ?_ _)); refine blk_far ?_ NB216_221.out _; (with_reducible repeat (first | refine blk_drewN ?_ _ | refine blk_drew ?_ | refine blk_alloc ?_ _)); refine blk_far ?_ NB216_221.out _; (with_reducible repeat (first | refine blk_drewN ?_ _ | refine blk_drew ?_ | refine blk_alloc ?_ _)); refine blk_far ?_ NB216_221.out _; (with_reducible repeat (first | refine blk_drewN ?_ _ | refine blk_drew ?_ | refine blk_alloc ?_ _)); exact BK216.out) : Q := g
theorem z62_11 {Q : Prop} (g : Q := by repeat (first | (with_reducible first | exact HB.out | apply below_alloc | apply pw_below_drewN | apply below_drew1 | refine below_set ?_ GE216.out | refine below_set ?_ GE217.out) | exact HB.out)) : Q := g
theorem z62_12 {Q : Prop} (g : Q := by (with_reducible repeat (first | refine blk_drewN ?_ _ | refine blk_drew ?_ | refine blk_alloc ?_ _)); refine blk_put (cs := #[.int .i64 0, .int .i64 0, .int .i64 0, .int .i64 0, .int .i64 0, .int .i64 0]) ?_ 5 _ rfl; (with_reducible repeat (first | refine blk_drewN ?_ _ | refine blk_drew ?_ | refine blk_alloc ?_ _)); refine blk_put (cs := #[.int .i64 0, .int .i64 0, .int .i64 0, .int .i64 0, .int .i64 0, .int .i64 0]) ?_ 4 _ rfl; (with_reducible repeat (first | refine blk_drewN ?_ _ | refine blk_drew ?_ | refine blk_alloc ?_ _)); refine blk_put (cs := #[.int .i64 0, .int .i64 0, .int .i64 0, .int .i64 0, .int .i64 0, .int .i64 0]) ?_ 3 _ rfl; (with_reducible repeat (first | refine blk_drewN ?_ _ | refine blk_drew ?_ | refine blk_alloc ?_ _)); refine blk_put (cs := #[.int .i64 0, .int .i64 0, .int .i64 0, .int .i64 0, .int .i64 0, .int .i64 0]) ?_ 2 _ rfl; (with_reducible repeat (first | refine blk_drewN ?_ _ | refine blk_drew ?_ | refine blk_alloc ?_ _)); refine blk_put (cs := #[.int .i64 0, .int .i64 0, .int .i64 0, .int .i64 0, .int .i64 0, .int .i64 0]) ?_ 1 _ rfl; (with_reducible repeat (first | refine blk_drewN ?_ _ | refine blk_drew ?_ | refine blk_alloc ?_ _)); refine blk_put (cs := #[.int .i64 0, .int .i64 0, .int .i64 0, .int .i64 0, .int .i64 0, .int .i64 0]) ?_ 0 _ rfl; (with_reducible repeat (first | refine blk_drewN ?_ _ | refine blk_drew ?_ | refine blk_alloc ?_ _)); exact BK218.out) : Q := g
theorem z62_13 {Q : Prop} (g : Q := by rw [hg]; exact Nat.ne_of_lt (blk_lt (g := gb218) (o := .cells #[.int .i64 0, .int .i64 0, .int .i64 0, .int .i64 0, .int .i64 0, .int .i64 0] 83 (0, 0)) (pB62_ BK218.out))) : Q := g
theorem z62_14 {Q : Prop} (g : Q := by rw [hg]; exact Nat.ne_of_gt (blk_lt (g := gb218) (o := .cells #[.int .i64 0, .int .i64 0, .int .i64 0, .int .i64 0, .int .i64 0, .int .i64 0] 83 (0, 0)) (pB62_ BK218.out))) : Q := g
theorem z62_15 {Q : Prop} (g : Q := by repeat (first | (with_reducible first | exact HB.out | apply below_alloc | apply pw_below_drewN | apply below_drew1 | refine below_set ?_ GE216.out) | exact HB.out)) : Q := g
theorem z62_16 {Q : Prop} (g : Q := by repeat (first | (with_reducible first | exact HB.out | apply below_alloc | apply pw_below_drewN | apply below_drew1) | exact HB.out)) : Q := g
theorem z62_17 {Q : Prop} (g : Q := by simp only [putAll, Act.put, List.setIfInBounds_toArray, List.set_cons_zero, List.set_cons_succ]) : Q := g
theorem z62_18 {Q : Prop} (g : Q := by rw [hg]; exact (below_size z62_0)) : Q := g
theorem z62_19 {Q : Prop} (g : Q := by kernel_rfl) : Q := g
set_option maxHeartbeats 8000000 in
set_option maxRecDepth 100000 in
theorem impl_HealthFact.calls (k : Nat) (a0_0 : Int) (A0_1 : Option Addr) (c0_1 : Nat) (l0_1 : List Int) (A0_2 : Option Addr) (c0_2 : Nat) (l0_2 : List Int) (A0_3 : Option Addr) (c0_3 : Nat) (l0_3 : List Int) (a1 : Int) (a2_0 : Int) (a2_1 : Int) (a2_2 : Int) (a2_3 : Int) (a2_4 : Int) (A3 : Option Addr) (c3 : Nat) (l3 : List Int) (a4 : Int) (a5 : Int) (a6 : Int) (r1 : Int) (r2 : Int) (r3 : Int) (r4 : Int) (r5 : Int) (r6 : Int) (r7 : Bool) (w : World) (hr0_1 : Kd.C (Kd.int .i64) w A0_1 l0_1.length l0_1) (hc0_1 : l0_1.length ≤ c0_1) (hr0_2 : Kd.C (Kd.int .i64) w A0_2 l0_2.length l0_2) (hc0_2 : l0_2.length ≤ c0_2) (hr0_3 : Kd.C (Kd.int .i64) w A0_3 l0_3.length l0_3) (hc0_3 : l0_3.length ≤ c0_3) (hr3 : Kd.C (Kd.int .i64) w A3 l3.length l3) (hc3 : l3.length ≤ c3) (h : impl_HealthFact.f k a0_0 l0_1 l0_2 l0_3 a1 a2_0 a2_1 a2_2 a2_3 a2_4 l3 a4 a5 a6 = some (r1, r2, r3, r4, r5, r6, r7)) :
    Calls Try.prog 62 #[.agg #[.int .i64 a0_0, .slice A0_1 l0_1.length c0_1, .slice A0_2 l0_2.length c0_2, .slice A0_3 l0_3.length c0_3], .int .i64 a1, .agg #[.int .i64 a2_0, .int .i64 a2_1, .int .i64 a2_2, .int .i64 a2_3, .int .i64 a2_4], .slice A3 l3.length c3, .int .i64 a4, .int .i64 a5, .int .i64 a6] w fun e w' => e = .returned (.tuple #[.agg #[.int .i64 r1, .int .i64 r2, .int .i64 r3, .int .i64 r4, .int .i64 r5, .int .i64 r6], .bool r7]) ∧ Below w.heap.size w w' := by
  have hu33 := Try.underlying33
  have hu45 := Try.underlying45
  have hu83 := Try.underlying83
  have HR0_1 := Aside0.mk hr0_1
  have HC0_1 := Aside0.mk hc0_1
  clear hr0_1 hc0_1
  have HR0_2 := Aside0.mk hr0_2
  have HC0_2 := Aside0.mk hc0_2
  clear hr0_2 hc0_2
  have HR0_3 := Aside0.mk hr0_3
  have HC0_3 := Aside0.mk hc0_3
  clear hr0_3 hc0_3
  have HR3 := Aside0.mk hr3
  have HC3 := Aside0.mk hc3
  clear hr3 hc3
  have HB := Aside0.mk (Below.refl w.heap.size w)
  have H : ((impl_AppraiseLog.f k a0_0 l0_1 l0_2 l0_3 l3).bind fun t219 => ((impl_EndOf.f a5 a6).bind fun t220 => ((impl_CheckQuote.f k a1 a2_0 a2_1 a2_2 a2_3 a2_4 l3 a4 a5 5).bind fun t222 => (if t222 = true then ((impl_IsFact.f 3 a2_0 t219 1 a5 t220).bind fun t223 => (if t223 = true then (some (3, a2_0, t219, 1, a5, t220, true)) else (some (0, 0, 0, 0, 0, 0, false)))) else (some (0, 0, 0, 0, 0, 0, false)))))) = some (r1, r2, r3, r4, r5, r6, r7) := h
  clear h
  replace H := Option.bind_eq_some_iff.mp H
  obtain ⟨t219, A80, H⟩ := H
  replace H : ((impl_EndOf.f a5 a6).bind fun t220 => ((impl_CheckQuote.f k a1 a2_0 a2_1 a2_2 a2_3 a2_4 l3 a4 a5 5).bind fun t222 => (if t222 = true then ((impl_IsFact.f 3 a2_0 t219 1 a5 t220).bind fun t223 => (if t223 = true then (some (3, a2_0, t219, 1, a5, t220, true)) else (some (0, 0, 0, 0, 0, 0, false)))) else (some (0, 0, 0, 0, 0, 0, false))))) = some (r1, r2, r3, r4, r5, r6, r7) := H
  have A8 := Aside0.mk A80
  clear A80
  replace H := Option.bind_eq_some_iff.mp H
  obtain ⟨t220, A90, H⟩ := H
  replace H : ((impl_CheckQuote.f k a1 a2_0 a2_1 a2_2 a2_3 a2_4 l3 a4 a5 5).bind fun t222 => (if t222 = true then ((impl_IsFact.f 3 a2_0 t219 1 a5 t220).bind fun t223 => (if t223 = true then (some (3, a2_0, t219, 1, a5, t220, true)) else (some (0, 0, 0, 0, 0, 0, false)))) else (some (0, 0, 0, 0, 0, 0, false)))) = some (r1, r2, r3, r4, r5, r6, r7) := H
  have A9 := Aside0.mk A90
  clear A90
  replace H := Option.bind_eq_some_iff.mp H
  obtain ⟨t222, A100, H⟩ := H
  replace H : (if t222 = true then ((impl_IsFact.f 3 a2_0 t219 1 a5 t220).bind fun t223 => (if t223 = true then (some (3, a2_0, t219, 1, a5, t220, true)) else (some (0, 0, 0, 0, 0, 0, false)))) else (some (0, 0, 0, 0, 0, 0, false))) = some (r1, r2, r3, r4, r5, r6, r7) := H
  have A10 := Aside0.mk A100
  clear A100
  by_cases c11 : t222 = true
  · subst c11
    have H1 : ((impl_IsFact.f 3 a2_0 t219 1 a5 t220).bind fun t223 => (if t223 = true then (some (3, a2_0, t219, 1, a5, t220, true)) else (some (0, 0, 0, 0, 0, 0, false)))) = some (r1, r2, r3, r4, r5, r6, r7) := by rw [if_pos rfl] at H; exact H
    clear H
    have H := H1
    clear H1
    replace H := Option.bind_eq_some_iff.mp H
    obtain ⟨t223, A120, H⟩ := H
    replace H : (if t223 = true then (some (3, a2_0, t219, 1, a5, t220, true)) else (some (0, 0, 0, 0, 0, 0, false))) = some (r1, r2, r3, r4, r5, r6, r7) := H
    have A12 := Aside0.mk A120
    clear A120
    by_cases c13 : t223 = true
    · subst c13
      have H1 : (some (3, a2_0, t219, 1, a5, t220, true)) = some (r1, r2, r3, r4, r5, r6, r7) := by rw [if_pos rfl] at H; exact H
      clear H
      have H := H1
      clear H1
      simp only [Option.some.injEq, Prod.mk.injEq] at H
      obtain ⟨rfl, rfl, rfl, rfl, rfl, rfl, rfl⟩ := H
      go_enter Try.func62, Try.ntmps62
      try go_wp2_with (first | ((with_reducible refine gate_dst (N := 7) rfl ?_); refine box_event ?hg (N := 7) ?hd (cs := #[.int .i64 a0_0, .slice A0_1 l0_1.length c0_1, .slice A0_2 l0_2.length c0_2, .slice A0_3 l0_3.length c0_3]) (t := 33) ?hr ?_; (case hd => rfl); (case hg => rfl); (case hr => first | (go_simp; done) | (go_simp; rfl)); intro gb216 hg w14 hbox hb; have n0_ := Aside0.mk (below_step z62_16 hb); have n1_ := Aside0.mk (hbox); have n2_ := Aside0.mk ((by rw [hg]; exact (below_size z62_16) : w.heap.size ≤ gb216)); have n3_ := Aside0.mk ((by rw [hg]; exact (below_size z62_16) : w.heap.size ≤ gb216)); clear HB; have HB := n0_; have BK216 := n1_; have GW216 := n2_; have GE216 := n3_; clear n0_ n1_ n2_ n3_; clear hb hbox hg) | ((with_reducible refine gate_dst (N := 9) rfl ?_); refine box_event ?hg (N := 9) ?hd (cs := #[.int .i64 a2_0, .int .i64 a2_1, .int .i64 a2_2, .int .i64 a2_3, .int .i64 a2_4]) (t := 45) ?hr ?_; (case hd => rfl); (case hg => rfl); (case hr => first | (go_simp; done) | (go_simp; rfl)); intro gb217 hg w15 hbox hb; have n0_ := Aside0.mk (blk_below (g := gb216) (o := .cells #[.int .i64 a0_0, .slice A0_1 l0_1.length c0_1, .slice A0_2 l0_2.length c0_2, .slice A0_3 l0_3.length c0_3] 33 (0, 0)) (pB62_ BK216.out) hb); have n1_ := Aside0.mk (below_step z62_15 hb); have n2_ := Aside0.mk (hbox); have n3_ := Aside0.mk ((by rw [hg]; exact (below_size z62_15) : w.heap.size ≤ gb217)); have n4_ := Aside0.mk ((by rw [hg]; exact (below_size z62_15) : w.heap.size ≤ gb217)); have n5_ := Aside0.mk ((z62_3 : gb216 ≠ gb217)); have n6_ := Aside0.mk ((z62_4 : gb217 ≠ gb216)); clear BK216; clear HB; have BK216 := n0_; have HB := n1_; have BK217 := n2_; have GW217 := n3_; have GE217 := n4_; have NB216_217 := n5_; have NB217_216 := n6_; clear n0_ n1_ n2_ n3_ n4_ n5_ n6_; clear hb hbox hg) | ((with_reducible refine gate_dst (N := 14) rfl ?_); refine box_event ?hg (N := 14) ?hd (cs := #[.int .i64 0, .int .i64 0, .int .i64 0, .int .i64 0, .int .i64 0, .int .i64 0]) (t := 83) ?hr ?_; (case hd => rfl); (case hg => rfl); (case hr => first | (go_simp; done) | (go_simp; rfl)); intro gb218 hg w16 hbox hb; have n0_ := Aside0.mk (blk_below (g := gb216) (o := .cells #[.int .i64 a0_0, .slice A0_1 l0_1.length c0_1, .slice A0_2 l0_2.length c0_2, .slice A0_3 l0_3.length c0_3] 33 (0, 0)) (pB62_ BK216.out) hb); have n1_ := Aside0.mk (blk_below (g := gb217) (o := .cells #[.int .i64 a2_0, .int .i64 a2_1, .int .i64 a2_2, .int .i64 a2_3, .int .i64 a2_4] 45 (0, 0)) (pB62_ BK217.out) hb); have n2_ := Aside0.mk (below_step z62_11 hb); have n3_ := Aside0.mk (hbox); have n4_ := Aside0.mk ((by rw [hg]; exact (below_size z62_11) : w.heap.size ≤ gb218)); have n5_ := Aside0.mk ((by rw [hg]; exact (below_size z62_11) : w.heap.size ≤ gb218)); have n6_ := Aside0.mk ((z62_3 : gb216 ≠ gb218)); have n7_ := Aside0.mk ((z62_4 : gb218 ≠ gb216)); have n8_ := Aside0.mk ((z62_6 : gb217 ≠ gb218)); have n9_ := Aside0.mk ((z62_7 : gb218 ≠ gb217)); clear BK216; clear BK217; clear HB; have BK216 := n0_; have BK217 := n1_; have HB := n2_; have BK218 := n3_; have GW218 := n4_; have GE218 := n5_; have NB216_218 := n6_; have NB218_216 := n7_; have NB217_218 := n8_; have NB218_217 := n9_; clear n0_ n1_ n2_ n3_ n4_ n5_ n6_ n7_ n8_ n9_; clear hb hbox hg))
      have n0_ := Aside0.mk (blk_drew BK216.out)
      have n1_ := Aside0.mk (blk_drew BK217.out)
      have n2_ := Aside0.mk (blk_drew BK218.out)
      have n3_ := Aside0.mk (below_drew1 HB.out)
      clear BK216
      clear BK217
      clear BK218
      clear HB
      have BK216 := n0_
      have BK217 := n1_
      have BK218 := n2_
      have HB := n3_
      clear n0_ n1_ n2_ n3_
      refine start_ (n := 12) (S := fun w' => w'.cell? ⟨gb217, 0, none⟩ = some (.int .i64 a2_0) ∧ w'.cell? ⟨gb217, 1, none⟩ = some (.int .i64 a2_1) ∧ w'.cell? ⟨gb217, 2, none⟩ = some (.int .i64 a2_2) ∧ w'.cell? ⟨gb217, 3, none⟩ = some (.int .i64 a2_3) ∧ w'.cell? ⟨gb217, 4, none⟩ = some (.int .i64 a2_4) ∧ w'.cell? ⟨gb216, 0, none⟩ = some (.int .i64 a0_0) ∧ w'.cell? ⟨gb216, 1, none⟩ = some (.slice A0_1 l0_1.length c0_1) ∧ w'.cell? ⟨gb216, 2, none⟩ = some (.slice A0_2 l0_2.length c0_2) ∧ w'.cell? ⟨gb216, 3, none⟩ = some (.slice A0_3 l0_3.length c0_3)) (ds := []) #[false, false, false, false, false, false, false, false, false, false, false, false] z62_19 rfl rfl ⟨(blk_cell BK217.out 0).trans rfl, (blk_cell BK217.out 1).trans rfl, (blk_cell BK217.out 2).trans rfl, (blk_cell BK217.out 3).trans rfl, (blk_cell BK217.out 4).trans rfl, (blk_cell BK216.out 0).trans rfl, (blk_cell BK216.out 1).trans rfl, (blk_cell BK216.out 2).trans rfl, (blk_cell BK216.out 3).trans rfl⟩ (fun hHeld => ?_); refine with_tabW impl_HealthFact.tab1 impl_HealthFact.bits1 (fun HT_ HW_ => ?_)
      generalize w16.drew = w17 at BK216 BK217 BK218 HB hHeld ⊢
      refine pure_ (i := 0) (N := some 17) (v := ?_) (a' := ?_) #[true, false, false, false, false, false, false, false, false, false, false, false] rfl rfl (any_of HT_.out z62_19) (fun _ _ _ h => h) (Or.inl ⟨by rfl, ?_⟩) ?_ ?_
      rotate_left
      · intro w'
        go_simp
        with_reducible rfl
      rotate_left
      · simp only [Act.put, List.setIfInBounds_toArray, List.set_cons_zero, List.set_cons_succ, i64_w, i32_w]
        rfl
      refine pure_ (i := 3) (N := some 20) (v := ?_) (a' := ?_) #[true, false, false, true, false, false, false, false, false, false, false, false] rfl rfl (any_of HT_.out z62_19) (fun _ _ _ h => h) (Or.inl ⟨by rfl, ?_⟩) ?_ ?_
      rotate_left
      · intro w'
        go_simp
        with_reducible rfl
      rotate_left
      · simp only [Act.put, List.setIfInBounds_toArray, List.set_cons_zero, List.set_cons_succ, i64_w, i32_w]
        rfl
      refine pure_ (i := 5) (N := some 22) (v := ?_) (a' := ?_) #[true, false, false, true, false, true, false, false, false, false, false, false] rfl rfl (any_of HT_.out z62_19) (fun _ _ _ h => h) (Or.inl ⟨by rfl, ?_⟩) ?_ ?_
      rotate_left
      · intro w'
        go_simp
        with_reducible rfl
      rotate_left
      · simp only [Act.put, List.setIfInBounds_toArray, List.set_cons_zero, List.set_cons_succ, i64_w, i32_w]
        rfl
      refine pure_ (i := 6) (N := some 23) (v := ?_) (a' := ?_) #[true, false, false, true, false, true, true, false, false, false, false, false] rfl rfl (any_of HT_.out z62_19) (fun _ _ _ h => h) (Or.inl ⟨by rfl, ?_⟩) ?_ ?_
      rotate_left
      · intro w'
        go_simp
        with_reducible rfl
      rotate_left
      · simp only [Act.put, List.setIfInBounds_toArray, List.set_cons_zero, List.set_cons_succ, i64_w, i32_w]
        rfl
      refine pure_ (i := 7) (N := some 24) (v := ?_) (a' := ?_) #[true, false, false, true, false, true, true, true, false, false, false, false] rfl rfl (any_of HT_.out z62_19) (fun _ _ _ h => h) (Or.inl ⟨by rfl, ?_⟩) ?_ ?_
      rotate_left
      · intro w'
        go_simp
        with_reducible rfl
      rotate_left
      · simp only [Act.put, List.setIfInBounds_toArray, List.set_cons_zero, List.set_cons_succ, i64_w, i32_w]
        rfl
      refine take_ (i := 1) (N := some 18) (v := ?_) (a' := ?_) #[true, true, false, true, false, true, true, true, false, false, false, false] rfl rfl (take_ofW HT_.out HW_.out z62_19) (fun _ _ _ h => h) (Or.inl ⟨by rfl, ?_⟩) hHeld ?_ ?_
      rotate_left
      · rintro w' ⟨s0, s1, s2, s3, s4, s5, s6, s7, s8⟩
        go_simp
        with_reducible rfl
      rotate_left
      · simp only [Act.put, List.setIfInBounds_toArray, List.set_cons_zero, List.set_cons_succ, i64_w, i32_w]
        rfl
      refine take_ (i := 2) (N := some 19) (v := ?_) (a' := ?_) #[true, true, true, true, false, true, true, true, false, false, false, false] rfl rfl (take_ofW HT_.out HW_.out z62_19) (fun _ _ _ h => h) (Or.inl ⟨by rfl, ?_⟩) hHeld ?_ ?_
      rotate_left
      · rintro w' ⟨s0, s1, s2, s3, s4, s5, s6, s7, s8⟩
        go_simp
        with_reducible rfl
      rotate_left
      · simp only [Act.put, List.setIfInBounds_toArray, List.set_cons_zero, List.set_cons_succ, i64_w, i32_w]
        rfl
      refine join_ (σ := Nat) 1 #[true, true, true, true, true, true, true, true, true, true, true, false] (fun s_ => [(21, .int .i64 t219), (25, .int .i64 t220), (16, .pointer (some ⟨s_, 0, none⟩)), (26, .agg #[.int .i64 3, .int .i64 a2_0, .int .i64 t219, .int .i64 1, .int .i64 a5, .int .i64 t220])]) (fun s_ w' => (w'.cell? ⟨gb217, 0, none⟩ = some (.int .i64 a2_0) ∧ w'.cell? ⟨gb217, 1, none⟩ = some (.int .i64 a2_1) ∧ w'.cell? ⟨gb217, 2, none⟩ = some (.int .i64 a2_2) ∧ w'.cell? ⟨gb217, 3, none⟩ = some (.int .i64 a2_3) ∧ w'.cell? ⟨gb217, 4, none⟩ = some (.int .i64 a2_4) ∧ w'.cell? ⟨gb216, 0, none⟩ = some (.int .i64 a0_0) ∧ w'.cell? ⟨gb216, 1, none⟩ = some (.slice A0_1 l0_1.length c0_1) ∧ w'.cell? ⟨gb216, 2, none⟩ = some (.slice A0_2 l0_2.length c0_2) ∧ w'.cell? ⟨gb216, 3, none⟩ = some (.slice A0_3 l0_3.length c0_3)) ∧ (w'.heap[gb216]? = some (.cells #[.int .i64 a0_0, .slice A0_1 l0_1.length c0_1, .slice A0_2 l0_2.length c0_2, .slice A0_3 l0_3.length c0_3] 33 (0, 0))) ∧ (w'.heap[gb217]? = some (.cells #[.int .i64 a2_0, .int .i64 a2_1, .int .i64 a2_2, .int .i64 a2_3, .int .i64 a2_4] 45 (0, 0))) ∧ (w'.heap[gb218]? = some (.cells #[.int .i64 0, .int .i64 0, .int .i64 0, .int .i64 0, .int .i64 0, .int .i64 0] 83 (0, 0))) ∧ (w'.heap[s_]? = some (.cells #[.int .i64 0, .int .i64 0, .int .i64 0, .int .i64 0, .int .i64 0, .int .i64 0] 83 (0, 0))) ∧ (w.heap.size ≤ s_) ∧ (w.heap.size ≤ s_) ∧ (gb216 ≠ s_) ∧ (s_ ≠ gb216) ∧ (gb217 ≠ s_) ∧ (s_ ≠ gb217) ∧ (gb218 ≠ s_) ∧ (s_ ≠ gb218) ∧ (Below w.heap.size w w')) ?_ ?_
      rotate_left
      · intro hCont
        refine two_ (i := 4) (j := 10) (Ni := some 21) (Nj := some 16) #[true, true, true, true, true, true, true, true, false, false, false, false] #[true, true, true, true, false, true, true, true, false, false, true, false] rfl rfl rfl rfl (two_of HT_.out z62_19) (by decide) (by decide) (fun K hK => ?_) (fun K hK => ?_)
        · skip
          refine goes_ Try.func29 z62_19 rfl #[.agg #[.int .i64 a0_0, .slice A0_1 l0_1.length c0_1, .slice A0_2 l0_2.length c0_2, .slice A0_3 l0_3.length c0_3], .slice A3 l3.length c3] (by rfl) rfl rfl z62_5 ?_
          with_reducible refine (impl_AppraiseLog.calls k a0_0 _ _ l0_1 _ _ l0_2 _ _ l0_3 _ _ l3 t219 _ ?side1 ?side2 ?side3 ?side4 ?side5 ?side6 ?side7 ?side8 A8.out).mono ?_
          (case side1 => repeat (first | exact (Kd.C_below HR0_1.out HB.out) | (with_reducible refine Kd.C_alloc ?_ _) | (with_reducible refine Kd.C_drewN ?_ _) | (with_reducible refine Kd.C_drew ?_)))
          (case side2 => exact HC0_1.out)
          (case side3 => repeat (first | exact (Kd.C_below HR0_2.out HB.out) | (with_reducible refine Kd.C_alloc ?_ _) | (with_reducible refine Kd.C_drewN ?_ _) | (with_reducible refine Kd.C_drew ?_)))
          (case side4 => exact HC0_2.out)
          (case side5 => repeat (first | exact (Kd.C_below HR0_3.out HB.out) | (with_reducible refine Kd.C_alloc ?_ _) | (with_reducible refine Kd.C_drewN ?_ _) | (with_reducible refine Kd.C_drew ?_)))
          (case side6 => exact HC0_3.out)
          (case side7 => repeat (first | exact (Kd.C_below HR3.out HB.out) | (with_reducible refine Kd.C_alloc ?_ _) | (with_reducible refine Kd.C_drewN ?_ _) | (with_reducible refine Kd.C_drew ?_)))
          (case side8 => exact HC3.out)
          rintro e w18 ⟨rfl, hb⟩
          refine ⟨_, rfl, ?_⟩
          have n0_ := Aside0.mk (blk_below (g := gb216) (o := .cells #[.int .i64 a0_0, .slice A0_1 l0_1.length c0_1, .slice A0_2 l0_2.length c0_2, .slice A0_3 l0_3.length c0_3] 33 (0, 0)) (pB62_ BK216.out) hb)
          have n1_ := Aside0.mk (blk_below (g := gb217) (o := .cells #[.int .i64 a2_0, .int .i64 a2_1, .int .i64 a2_2, .int .i64 a2_3, .int .i64 a2_4] 45 (0, 0)) (pB62_ BK217.out) hb)
          have n2_ := Aside0.mk (blk_below (g := gb218) (o := .cells #[.int .i64 0, .int .i64 0, .int .i64 0, .int .i64 0, .int .i64 0, .int .i64 0] 83 (0, 0)) (pB62_ BK218.out) hb)
          have n3_ := Aside0.mk (below_step z62_0 hb)
          clear BK216
          clear BK217
          clear BK218
          clear HB
          have BK216 := n0_
          have BK217 := n1_
          have BK218 := n2_
          have HB := n3_
          clear n0_ n1_ n2_ n3_
          (try clear hb)
          (try clear hb2)
          (try clear hk)
          (try clear hi)
          refine hK.out _ _ ⟨(blk_cell BK217.out 0).trans rfl, (blk_cell BK217.out 1).trans rfl, (blk_cell BK217.out 2).trans rfl, (blk_cell BK217.out 3).trans rfl, (blk_cell BK217.out 4).trans rfl, (blk_cell BK216.out 0).trans rfl, (blk_cell BK216.out 1).trans rfl, (blk_cell BK216.out 2).trans rfl, (blk_cell BK216.out 3).trans rfl⟩ (fun hHeld => ?_)
          clear hK K
          refine norm_ (a' := ?_) ?_ ?_
          rotate_left
          · show Act.put _ (some 21) _ = _
            simp only [Act.put, List.setIfInBounds_toArray, List.set_cons_zero, List.set_cons_succ, i64_w, i32_w]
            rfl
          refine two_ (i := 8) (j := 10) (Ni := some 25) (Nj := some 16) #[true, true, true, true, true, true, true, true, true, false, false, false] #[true, true, true, true, true, true, true, true, false, false, true, false] rfl rfl rfl rfl (two_of HT_.out z62_19) (by decide) (by decide) (fun K hK => ?_) (fun K hK => ?_)
          · skip
            refine goes_ Try.func108 z62_19 rfl #[.int .i64 a5, .int .i64 a6] (by rfl) rfl rfl z62_5 ?_
            with_reducible refine (impl_EndOf.calls a5 a6 t220 _ A9.out).mono ?_
            rintro e w19 ⟨rfl, hb⟩
            refine ⟨_, rfl, ?_⟩
            have n0_ := Aside0.mk (blk_below (g := gb216) (o := .cells #[.int .i64 a0_0, .slice A0_1 l0_1.length c0_1, .slice A0_2 l0_2.length c0_2, .slice A0_3 l0_3.length c0_3] 33 (0, 0)) (pB62_ BK216.out) hb)
            have n1_ := Aside0.mk (blk_below (g := gb217) (o := .cells #[.int .i64 a2_0, .int .i64 a2_1, .int .i64 a2_2, .int .i64 a2_3, .int .i64 a2_4] 45 (0, 0)) (pB62_ BK217.out) hb)
            have n2_ := Aside0.mk (blk_below (g := gb218) (o := .cells #[.int .i64 0, .int .i64 0, .int .i64 0, .int .i64 0, .int .i64 0, .int .i64 0] 83 (0, 0)) (pB62_ BK218.out) hb)
            have n3_ := Aside0.mk (below_step z62_0 hb)
            clear BK216
            clear BK217
            clear BK218
            clear HB
            have BK216 := n0_
            have BK217 := n1_
            have BK218 := n2_
            have HB := n3_
            clear n0_ n1_ n2_ n3_
            (try clear hb)
            (try clear hb2)
            (try clear hk)
            (try clear hi)
            refine hK.out _ _ ⟨(blk_cell BK217.out 0).trans rfl, (blk_cell BK217.out 1).trans rfl, (blk_cell BK217.out 2).trans rfl, (blk_cell BK217.out 3).trans rfl, (blk_cell BK217.out 4).trans rfl, (blk_cell BK216.out 0).trans rfl, (blk_cell BK216.out 1).trans rfl, (blk_cell BK216.out 2).trans rfl, (blk_cell BK216.out 3).trans rfl⟩ (fun hHeld => ?_)
            clear hK K
            refine norm_ (a' := ?_) ?_ ?_
            rotate_left
            · show Act.put _ (some 25) _ = _
              simp only [Act.put, List.setIfInBounds_toArray, List.set_cons_zero, List.set_cons_succ, i64_w, i32_w]
              rfl
            refine pure_ (i := 9) (N := some 26) (v := ?_) (a' := ?_) #[true, true, true, true, true, true, true, true, true, true, false, false] rfl rfl (any_of HT_.out z62_19) (fun _ _ _ h => h) (Or.inl ⟨by rfl, ?_⟩) ?_ ?_
            rotate_left
            · intro w'
              go_simp
              with_reducible rfl
            rotate_left
            · simp only [Act.put, List.setIfInBounds_toArray, List.set_cons_zero, List.set_cons_succ, i64_w, i32_w]
              rfl
            refine one_ (i := 10) (N := some 16) #[true, true, true, true, true, true, true, true, true, true, true, false] rfl rfl (one_of HT_.out z62_19) (by decide) (fun K hK => ?_)
            refine box_step ?hg (N := 16) ?hd (cs := #[.int .i64 0, .int .i64 0, .int .i64 0, .int .i64 0, .int .i64 0, .int .i64 0]) (t := 83) ?hr ?_; (case hd => rfl); (case hg => rfl); (case hr => first | (go_simp; done) | (go_simp; rfl))
            intro gb221 hg w20 hbox hb
            have n0_ := Aside0.mk (blk_below (g := gb216) (o := .cells #[.int .i64 a0_0, .slice A0_1 l0_1.length c0_1, .slice A0_2 l0_2.length c0_2, .slice A0_3 l0_3.length c0_3] 33 (0, 0)) (pB62_ BK216.out) hb)
            have n1_ := Aside0.mk (blk_below (g := gb217) (o := .cells #[.int .i64 a2_0, .int .i64 a2_1, .int .i64 a2_2, .int .i64 a2_3, .int .i64 a2_4] 45 (0, 0)) (pB62_ BK217.out) hb)
            have n2_ := Aside0.mk (blk_below (g := gb218) (o := .cells #[.int .i64 0, .int .i64 0, .int .i64 0, .int .i64 0, .int .i64 0, .int .i64 0] 83 (0, 0)) (pB62_ BK218.out) hb)
            have n3_ := Aside0.mk (below_step z62_0 hb)
            have n4_ := Aside0.mk (hbox)
            have n5_ := Aside0.mk ((z62_18 : w.heap.size ≤ gb221))
            have n6_ := Aside0.mk ((z62_18 : w.heap.size ≤ gb221))
            have n7_ := Aside0.mk ((z62_3 : gb216 ≠ gb221))
            have n8_ := Aside0.mk ((z62_4 : gb221 ≠ gb216))
            have n9_ := Aside0.mk ((z62_6 : gb217 ≠ gb221))
            have n10_ := Aside0.mk ((z62_7 : gb221 ≠ gb217))
            have n11_ := Aside0.mk ((z62_13 : gb218 ≠ gb221))
            have n12_ := Aside0.mk ((z62_14 : gb221 ≠ gb218))
            clear BK216
            clear BK217
            clear BK218
            clear HB
            have BK216 := n0_
            have BK217 := n1_
            have BK218 := n2_
            have HB := n3_
            have BK221 := n4_
            have GW221 := n5_
            have GE221 := n6_
            have NB216_221 := n7_
            have NB221_216 := n8_
            have NB217_221 := n9_
            have NB221_217 := n10_
            have NB218_221 := n11_
            have NB221_218 := n12_
            clear n0_ n1_ n2_ n3_ n4_ n5_ n6_ n7_ n8_ n9_ n10_ n11_ n12_
            clear hb hbox hg
            refine hK.out _ _ ⟨(blk_cell BK217.out 0).trans rfl, (blk_cell BK217.out 1).trans rfl, (blk_cell BK217.out 2).trans rfl, (blk_cell BK217.out 3).trans rfl, (blk_cell BK217.out 4).trans rfl, (blk_cell BK216.out 0).trans rfl, (blk_cell BK216.out 1).trans rfl, (blk_cell BK216.out 2).trans rfl, (blk_cell BK216.out 3).trans rfl⟩ (fun hHeld => ?_)
            clear hK K
            refine norm_ (a' := ?_) ?_ ?_
            rotate_left
            · show Act.put _ (some 16) _ = _
              simp only [Act.put, List.setIfInBounds_toArray, List.set_cons_zero, List.set_cons_succ, i64_w, i32_w]
              rfl
            exact norm_ z62_17 (hCont (gb221) _ ⟨hHeld, (pB62_ BK216.out), (pB62_ BK217.out), (pB62_ BK218.out), (pB62_ BK221.out), GW221.out, GE221.out, NB216_221.out, NB221_216.out, NB217_221.out, NB221_217.out, NB218_221.out, NB221_218.out, z62_1⟩)
          · skip
            refine box_step ?hg (N := 16) ?hd (cs := #[.int .i64 0, .int .i64 0, .int .i64 0, .int .i64 0, .int .i64 0, .int .i64 0]) (t := 83) ?hr ?_; (case hd => rfl); (case hg => rfl); (case hr => first | (go_simp; done) | (go_simp; rfl))
            intro gb221 hg w19 hbox hb
            have n0_ := Aside0.mk (blk_below (g := gb216) (o := .cells #[.int .i64 a0_0, .slice A0_1 l0_1.length c0_1, .slice A0_2 l0_2.length c0_2, .slice A0_3 l0_3.length c0_3] 33 (0, 0)) (pB62_ BK216.out) hb)
            have n1_ := Aside0.mk (blk_below (g := gb217) (o := .cells #[.int .i64 a2_0, .int .i64 a2_1, .int .i64 a2_2, .int .i64 a2_3, .int .i64 a2_4] 45 (0, 0)) (pB62_ BK217.out) hb)
            have n2_ := Aside0.mk (blk_below (g := gb218) (o := .cells #[.int .i64 0, .int .i64 0, .int .i64 0, .int .i64 0, .int .i64 0, .int .i64 0] 83 (0, 0)) (pB62_ BK218.out) hb)
            have n3_ := Aside0.mk (below_step z62_0 hb)
            have n4_ := Aside0.mk (hbox)
            have n5_ := Aside0.mk ((z62_18 : w.heap.size ≤ gb221))
            have n6_ := Aside0.mk ((z62_18 : w.heap.size ≤ gb221))
            have n7_ := Aside0.mk ((z62_3 : gb216 ≠ gb221))
            have n8_ := Aside0.mk ((z62_4 : gb221 ≠ gb216))
            have n9_ := Aside0.mk ((z62_6 : gb217 ≠ gb221))
            have n10_ := Aside0.mk ((z62_7 : gb221 ≠ gb217))
            have n11_ := Aside0.mk ((z62_13 : gb218 ≠ gb221))
            have n12_ := Aside0.mk ((z62_14 : gb221 ≠ gb218))
            clear BK216
            clear BK217
            clear BK218
            clear HB
            have BK216 := n0_
            have BK217 := n1_
            have BK218 := n2_
            have HB := n3_
            have BK221 := n4_
            have GW221 := n5_
            have GE221 := n6_
            have NB216_221 := n7_
            have NB221_216 := n8_
            have NB217_221 := n9_
            have NB221_217 := n10_
            have NB218_221 := n11_
            have NB221_218 := n12_
            clear n0_ n1_ n2_ n3_ n4_ n5_ n6_ n7_ n8_ n9_ n10_ n11_ n12_
            clear hb hbox hg
            refine hK.out _ _ ⟨(blk_cell BK217.out 0).trans rfl, (blk_cell BK217.out 1).trans rfl, (blk_cell BK217.out 2).trans rfl, (blk_cell BK217.out 3).trans rfl, (blk_cell BK217.out 4).trans rfl, (blk_cell BK216.out 0).trans rfl, (blk_cell BK216.out 1).trans rfl, (blk_cell BK216.out 2).trans rfl, (blk_cell BK216.out 3).trans rfl⟩ (fun hHeld => ?_)
            clear hK K
            refine norm_ (a' := ?_) ?_ ?_
            rotate_left
            · show Act.put _ (some 16) _ = _
              simp only [Act.put, List.setIfInBounds_toArray, List.set_cons_zero, List.set_cons_succ, i64_w, i32_w]
              rfl
            refine one_ (i := 8) (N := some 25) #[true, true, true, true, true, true, true, true, true, false, true, false] rfl rfl (one_of HT_.out z62_19) (by decide) (fun K hK => ?_)
            refine goes_ Try.func108 z62_19 rfl #[.int .i64 a5, .int .i64 a6] (by rfl) rfl rfl z62_5 ?_
            with_reducible refine (impl_EndOf.calls a5 a6 t220 _ A9.out).mono ?_
            rintro e w20 ⟨rfl, hb⟩
            refine ⟨_, rfl, ?_⟩
            have n0_ := Aside0.mk (blk_below (g := gb216) (o := .cells #[.int .i64 a0_0, .slice A0_1 l0_1.length c0_1, .slice A0_2 l0_2.length c0_2, .slice A0_3 l0_3.length c0_3] 33 (0, 0)) (pB62_ BK216.out) hb)
            have n1_ := Aside0.mk (blk_below (g := gb217) (o := .cells #[.int .i64 a2_0, .int .i64 a2_1, .int .i64 a2_2, .int .i64 a2_3, .int .i64 a2_4] 45 (0, 0)) (pB62_ BK217.out) hb)
            have n2_ := Aside0.mk (blk_below (g := gb218) (o := .cells #[.int .i64 0, .int .i64 0, .int .i64 0, .int .i64 0, .int .i64 0, .int .i64 0] 83 (0, 0)) (pB62_ BK218.out) hb)
            have n3_ := Aside0.mk (blk_below (g := gb221) (o := .cells #[.int .i64 0, .int .i64 0, .int .i64 0, .int .i64 0, .int .i64 0, .int .i64 0] 83 (0, 0)) (pB62_ BK221.out) hb)
            have n4_ := Aside0.mk (below_step z62_1 hb)
            clear BK216
            clear BK217
            clear BK218
            clear BK221
            clear HB
            have BK216 := n0_
            have BK217 := n1_
            have BK218 := n2_
            have BK221 := n3_
            have HB := n4_
            clear n0_ n1_ n2_ n3_ n4_
            (try clear hb)
            (try clear hb2)
            (try clear hk)
            (try clear hi)
            refine hK.out _ _ ⟨(blk_cell BK217.out 0).trans rfl, (blk_cell BK217.out 1).trans rfl, (blk_cell BK217.out 2).trans rfl, (blk_cell BK217.out 3).trans rfl, (blk_cell BK217.out 4).trans rfl, (blk_cell BK216.out 0).trans rfl, (blk_cell BK216.out 1).trans rfl, (blk_cell BK216.out 2).trans rfl, (blk_cell BK216.out 3).trans rfl⟩ (fun hHeld => ?_)
            clear hK K
            refine norm_ (a' := ?_) ?_ ?_
            rotate_left
            · show Act.put _ (some 25) _ = _
              simp only [Act.put, List.setIfInBounds_toArray, List.set_cons_zero, List.set_cons_succ, i64_w, i32_w]
              rfl
            refine pure_ (i := 9) (N := some 26) (v := ?_) (a' := ?_) #[true, true, true, true, true, true, true, true, true, true, true, false] rfl rfl (any_of HT_.out z62_19) (fun _ _ _ h => h) (Or.inl ⟨by rfl, ?_⟩) ?_ ?_
            rotate_left
            · intro w'
              go_simp
              with_reducible rfl
            rotate_left
            · simp only [Act.put, List.setIfInBounds_toArray, List.set_cons_zero, List.set_cons_succ, i64_w, i32_w]
              rfl
            exact norm_ z62_17 (hCont (gb221) _ ⟨hHeld, (pB62_ BK216.out), (pB62_ BK217.out), (pB62_ BK218.out), (pB62_ BK221.out), GW221.out, GE221.out, NB216_221.out, NB221_216.out, NB217_221.out, NB221_217.out, NB218_221.out, NB221_218.out, z62_1⟩)
        · skip
          refine box_step ?hg (N := 16) ?hd (cs := #[.int .i64 0, .int .i64 0, .int .i64 0, .int .i64 0, .int .i64 0, .int .i64 0]) (t := 83) ?hr ?_; (case hd => rfl); (case hg => rfl); (case hr => first | (go_simp; done) | (go_simp; rfl))
          intro gb221 hg w18 hbox hb
          have n0_ := Aside0.mk (blk_below (g := gb216) (o := .cells #[.int .i64 a0_0, .slice A0_1 l0_1.length c0_1, .slice A0_2 l0_2.length c0_2, .slice A0_3 l0_3.length c0_3] 33 (0, 0)) (pB62_ BK216.out) hb)
          have n1_ := Aside0.mk (blk_below (g := gb217) (o := .cells #[.int .i64 a2_0, .int .i64 a2_1, .int .i64 a2_2, .int .i64 a2_3, .int .i64 a2_4] 45 (0, 0)) (pB62_ BK217.out) hb)
          have n2_ := Aside0.mk (blk_below (g := gb218) (o := .cells #[.int .i64 0, .int .i64 0, .int .i64 0, .int .i64 0, .int .i64 0, .int .i64 0] 83 (0, 0)) (pB62_ BK218.out) hb)
          have n3_ := Aside0.mk (below_step z62_0 hb)
          have n4_ := Aside0.mk (hbox)
          have n5_ := Aside0.mk ((z62_18 : w.heap.size ≤ gb221))
          have n6_ := Aside0.mk ((z62_18 : w.heap.size ≤ gb221))
          have n7_ := Aside0.mk ((z62_3 : gb216 ≠ gb221))
          have n8_ := Aside0.mk ((z62_4 : gb221 ≠ gb216))
          have n9_ := Aside0.mk ((z62_6 : gb217 ≠ gb221))
          have n10_ := Aside0.mk ((z62_7 : gb221 ≠ gb217))
          have n11_ := Aside0.mk ((z62_13 : gb218 ≠ gb221))
          have n12_ := Aside0.mk ((z62_14 : gb221 ≠ gb218))
          clear BK216
          clear BK217
          clear BK218
          clear HB
          have BK216 := n0_
          have BK217 := n1_
          have BK218 := n2_
          have HB := n3_
          have BK221 := n4_
          have GW221 := n5_
          have GE221 := n6_
          have NB216_221 := n7_
          have NB221_216 := n8_
          have NB217_221 := n9_
          have NB221_217 := n10_
          have NB218_221 := n11_
          have NB221_218 := n12_
          clear n0_ n1_ n2_ n3_ n4_ n5_ n6_ n7_ n8_ n9_ n10_ n11_ n12_
          clear hb hbox hg
          refine hK.out _ _ ⟨(blk_cell BK217.out 0).trans rfl, (blk_cell BK217.out 1).trans rfl, (blk_cell BK217.out 2).trans rfl, (blk_cell BK217.out 3).trans rfl, (blk_cell BK217.out 4).trans rfl, (blk_cell BK216.out 0).trans rfl, (blk_cell BK216.out 1).trans rfl, (blk_cell BK216.out 2).trans rfl, (blk_cell BK216.out 3).trans rfl⟩ (fun hHeld => ?_)
          clear hK K
          refine norm_ (a' := ?_) ?_ ?_
          rotate_left
          · show Act.put _ (some 16) _ = _
            simp only [Act.put, List.setIfInBounds_toArray, List.set_cons_zero, List.set_cons_succ, i64_w, i32_w]
            rfl
          refine one_ (i := 4) (N := some 21) #[true, true, true, true, true, true, true, true, false, false, true, false] rfl rfl (one_of HT_.out z62_19) (by decide) (fun K hK => ?_)
          refine goes_ Try.func29 z62_19 rfl #[.agg #[.int .i64 a0_0, .slice A0_1 l0_1.length c0_1, .slice A0_2 l0_2.length c0_2, .slice A0_3 l0_3.length c0_3], .slice A3 l3.length c3] (by rfl) rfl rfl z62_5 ?_
          with_reducible refine (impl_AppraiseLog.calls k a0_0 _ _ l0_1 _ _ l0_2 _ _ l0_3 _ _ l3 t219 _ ?side1 ?side2 ?side3 ?side4 ?side5 ?side6 ?side7 ?side8 A8.out).mono ?_
          (case side1 => repeat (first | exact (Kd.C_below HR0_1.out HB.out) | (with_reducible refine Kd.C_alloc ?_ _) | (with_reducible refine Kd.C_drewN ?_ _) | (with_reducible refine Kd.C_drew ?_)))
          (case side2 => exact HC0_1.out)
          (case side3 => repeat (first | exact (Kd.C_below HR0_2.out HB.out) | (with_reducible refine Kd.C_alloc ?_ _) | (with_reducible refine Kd.C_drewN ?_ _) | (with_reducible refine Kd.C_drew ?_)))
          (case side4 => exact HC0_2.out)
          (case side5 => repeat (first | exact (Kd.C_below HR0_3.out HB.out) | (with_reducible refine Kd.C_alloc ?_ _) | (with_reducible refine Kd.C_drewN ?_ _) | (with_reducible refine Kd.C_drew ?_)))
          (case side6 => exact HC0_3.out)
          (case side7 => repeat (first | exact (Kd.C_below HR3.out HB.out) | (with_reducible refine Kd.C_alloc ?_ _) | (with_reducible refine Kd.C_drewN ?_ _) | (with_reducible refine Kd.C_drew ?_)))
          (case side8 => exact HC3.out)
          rintro e w19 ⟨rfl, hb⟩
          refine ⟨_, rfl, ?_⟩
          have n0_ := Aside0.mk (blk_below (g := gb216) (o := .cells #[.int .i64 a0_0, .slice A0_1 l0_1.length c0_1, .slice A0_2 l0_2.length c0_2, .slice A0_3 l0_3.length c0_3] 33 (0, 0)) (pB62_ BK216.out) hb)
          have n1_ := Aside0.mk (blk_below (g := gb217) (o := .cells #[.int .i64 a2_0, .int .i64 a2_1, .int .i64 a2_2, .int .i64 a2_3, .int .i64 a2_4] 45 (0, 0)) (pB62_ BK217.out) hb)
          have n2_ := Aside0.mk (blk_below (g := gb218) (o := .cells #[.int .i64 0, .int .i64 0, .int .i64 0, .int .i64 0, .int .i64 0, .int .i64 0] 83 (0, 0)) (pB62_ BK218.out) hb)
          have n3_ := Aside0.mk (blk_below (g := gb221) (o := .cells #[.int .i64 0, .int .i64 0, .int .i64 0, .int .i64 0, .int .i64 0, .int .i64 0] 83 (0, 0)) (pB62_ BK221.out) hb)
          have n4_ := Aside0.mk (below_step z62_1 hb)
          clear BK216
          clear BK217
          clear BK218
          clear BK221
          clear HB
          have BK216 := n0_
          have BK217 := n1_
          have BK218 := n2_
          have BK221 := n3_
          have HB := n4_
          clear n0_ n1_ n2_ n3_ n4_
          (try clear hb)
          (try clear hb2)
          (try clear hk)
          (try clear hi)
          refine hK.out _ _ ⟨(blk_cell BK217.out 0).trans rfl, (blk_cell BK217.out 1).trans rfl, (blk_cell BK217.out 2).trans rfl, (blk_cell BK217.out 3).trans rfl, (blk_cell BK217.out 4).trans rfl, (blk_cell BK216.out 0).trans rfl, (blk_cell BK216.out 1).trans rfl, (blk_cell BK216.out 2).trans rfl, (blk_cell BK216.out 3).trans rfl⟩ (fun hHeld => ?_)
          clear hK K
          refine norm_ (a' := ?_) ?_ ?_
          rotate_left
          · show Act.put _ (some 21) _ = _
            simp only [Act.put, List.setIfInBounds_toArray, List.set_cons_zero, List.set_cons_succ, i64_w, i32_w]
            rfl
          refine one_ (i := 8) (N := some 25) #[true, true, true, true, true, true, true, true, true, false, true, false] rfl rfl (one_of HT_.out z62_19) (by decide) (fun K hK => ?_)
          refine goes_ Try.func108 z62_19 rfl #[.int .i64 a5, .int .i64 a6] (by rfl) rfl rfl z62_5 ?_
          with_reducible refine (impl_EndOf.calls a5 a6 t220 _ A9.out).mono ?_
          rintro e w20 ⟨rfl, hb⟩
          refine ⟨_, rfl, ?_⟩
          have n0_ := Aside0.mk (blk_below (g := gb216) (o := .cells #[.int .i64 a0_0, .slice A0_1 l0_1.length c0_1, .slice A0_2 l0_2.length c0_2, .slice A0_3 l0_3.length c0_3] 33 (0, 0)) (pB62_ BK216.out) hb)
          have n1_ := Aside0.mk (blk_below (g := gb217) (o := .cells #[.int .i64 a2_0, .int .i64 a2_1, .int .i64 a2_2, .int .i64 a2_3, .int .i64 a2_4] 45 (0, 0)) (pB62_ BK217.out) hb)
          have n2_ := Aside0.mk (blk_below (g := gb218) (o := .cells #[.int .i64 0, .int .i64 0, .int .i64 0, .int .i64 0, .int .i64 0, .int .i64 0] 83 (0, 0)) (pB62_ BK218.out) hb)
          have n3_ := Aside0.mk (blk_below (g := gb221) (o := .cells #[.int .i64 0, .int .i64 0, .int .i64 0, .int .i64 0, .int .i64 0, .int .i64 0] 83 (0, 0)) (pB62_ BK221.out) hb)
          have n4_ := Aside0.mk (below_step z62_1 hb)
          clear BK216
          clear BK217
          clear BK218
          clear BK221
          clear HB
          have BK216 := n0_
          have BK217 := n1_
          have BK218 := n2_
          have BK221 := n3_
          have HB := n4_
          clear n0_ n1_ n2_ n3_ n4_
          (try clear hb)
          (try clear hb2)
          (try clear hk)
          (try clear hi)
          refine hK.out _ _ ⟨(blk_cell BK217.out 0).trans rfl, (blk_cell BK217.out 1).trans rfl, (blk_cell BK217.out 2).trans rfl, (blk_cell BK217.out 3).trans rfl, (blk_cell BK217.out 4).trans rfl, (blk_cell BK216.out 0).trans rfl, (blk_cell BK216.out 1).trans rfl, (blk_cell BK216.out 2).trans rfl, (blk_cell BK216.out 3).trans rfl⟩ (fun hHeld => ?_)
          clear hK K
          refine norm_ (a' := ?_) ?_ ?_
          rotate_left
          · show Act.put _ (some 25) _ = _
            simp only [Act.put, List.setIfInBounds_toArray, List.set_cons_zero, List.set_cons_succ, i64_w, i32_w]
            rfl
          refine pure_ (i := 9) (N := some 26) (v := ?_) (a' := ?_) #[true, true, true, true, true, true, true, true, true, true, true, false] rfl rfl (any_of HT_.out z62_19) (fun _ _ _ h => h) (Or.inl ⟨by rfl, ?_⟩) ?_ ?_
          rotate_left
          · intro w'
            go_simp
            with_reducible rfl
          rotate_left
          · simp only [Act.put, List.setIfInBounds_toArray, List.set_cons_zero, List.set_cons_succ, i64_w, i32_w]
            rfl
          exact norm_ z62_17 (hCont (gb221) _ ⟨hHeld, (pB62_ BK216.out), (pB62_ BK217.out), (pB62_ BK218.out), (pB62_ BK221.out), GW221.out, GE221.out, NB216_221.out, NB221_216.out, NB217_221.out, NB221_217.out, NB218_221.out, NB221_218.out, z62_1⟩)
      rintro gb221 w21 ⟨hS_, h0_, h1_, h2_, h3_, h4_, h5_, h6_, h7_, h8_, h9_, h10_, h11_, h12_⟩
      have n0_ : Aside0 (w21.heap[gb216]? = some (.cells #[.int .i64 a0_0, .slice A0_1 l0_1.length c0_1, .slice A0_2 l0_2.length c0_2, .slice A0_3 l0_3.length c0_3] 33 (0, 0))) := ⟨h0_⟩
      have n1_ : Aside0 (w21.heap[gb217]? = some (.cells #[.int .i64 a2_0, .int .i64 a2_1, .int .i64 a2_2, .int .i64 a2_3, .int .i64 a2_4] 45 (0, 0))) := ⟨h1_⟩
      have n2_ : Aside0 (w21.heap[gb218]? = some (.cells #[.int .i64 0, .int .i64 0, .int .i64 0, .int .i64 0, .int .i64 0, .int .i64 0] 83 (0, 0))) := ⟨h2_⟩
      have n3_ : Aside0 (w21.heap[gb221]? = some (.cells #[.int .i64 0, .int .i64 0, .int .i64 0, .int .i64 0, .int .i64 0, .int .i64 0] 83 (0, 0))) := ⟨h3_⟩
      have n4_ : Aside0 (w.heap.size ≤ gb221) := ⟨h4_⟩
      have n5_ : Aside0 (w.heap.size ≤ gb221) := ⟨h5_⟩
      have n6_ : Aside0 (gb216 ≠ gb221) := ⟨h6_⟩
      have n7_ : Aside0 (gb221 ≠ gb216) := ⟨h7_⟩
      have n8_ : Aside0 (gb217 ≠ gb221) := ⟨h8_⟩
      have n9_ : Aside0 (gb221 ≠ gb217) := ⟨h9_⟩
      have n10_ : Aside0 (gb218 ≠ gb221) := ⟨h10_⟩
      have n11_ : Aside0 (gb221 ≠ gb218) := ⟨h11_⟩
      have n12_ : Aside0 (Below w.heap.size w w21) := ⟨h12_⟩
      clear BK216
      clear BK217
      clear BK218
      clear HB
      clear h0_ h1_ h2_ h3_ h4_ h5_ h6_ h7_ h8_ h9_ h10_ h11_ h12_
      have BK216 := n0_
      have BK217 := n1_
      have BK218 := n2_
      have BK221 := n3_
      have GW221 := n4_
      have GE221 := n5_
      have NB216_221 := n6_
      have NB221_216 := n7_
      have NB217_221 := n8_
      have NB221_217 := n9_
      have NB218_221 := n10_
      have NB221_218 := n11_
      have HB := n12_
      clear n0_ n1_ n2_ n3_ n4_ n5_ n6_ n7_ n8_ n9_ n10_ n11_ n12_
      have hHeld : w21.cell? ⟨gb217, 0, none⟩ = some (.int .i64 a2_0) ∧ w21.cell? ⟨gb217, 1, none⟩ = some (.int .i64 a2_1) ∧ w21.cell? ⟨gb217, 2, none⟩ = some (.int .i64 a2_2) ∧ w21.cell? ⟨gb217, 3, none⟩ = some (.int .i64 a2_3) ∧ w21.cell? ⟨gb217, 4, none⟩ = some (.int .i64 a2_4) ∧ w21.cell? ⟨gb216, 0, none⟩ = some (.int .i64 a0_0) ∧ w21.cell? ⟨gb216, 1, none⟩ = some (.slice A0_1 l0_1.length c0_1) ∧ w21.cell? ⟨gb216, 2, none⟩ = some (.slice A0_2 l0_2.length c0_2) ∧ w21.cell? ⟨gb216, 3, none⟩ = some (.slice A0_3 l0_3.length c0_3) := hS_
      refine norm_ (a' := ?_) ?_ ?_
      rotate_left
      · simp only [putAll, Act.put, List.setIfInBounds_toArray, List.set_cons_zero, List.set_cons_succ]
        rfl
      refine one_ (i := 11) (N := none) #[true, true, true, true, true, true, true, true, true, true, true, true] rfl rfl (one_of HT_.out z62_19) (by decide) (fun K hK => ?_)
      have hs22 : w21.cell? ⟨gb221, 0, none⟩ = some (.int .i64 0) := (blk_cell BK221.out 0).trans rfl
      have hfs22 := blk_frozen BK221.out 0
      have hns22_0 := NB216_221.out
      have hns22_1 := NB217_221.out
      have hns22_2 := NB218_221.out
      have hms22_0 := NB221_216.out
      have hms22_1 := NB221_217.out
      have hms22_2 := NB221_218.out
      have hs23 : w21.cell? ⟨gb221, 1, none⟩ = some (.int .i64 0) := (blk_cell BK221.out 1).trans rfl
      have hfs23 := blk_frozen BK221.out 1
      have hns23_0 := NB216_221.out
      have hns23_1 := NB217_221.out
      have hns23_2 := NB218_221.out
      have hms23_0 := NB221_216.out
      have hms23_1 := NB221_217.out
      have hms23_2 := NB221_218.out
      have hs24 : w21.cell? ⟨gb221, 2, none⟩ = some (.int .i64 0) := (blk_cell BK221.out 2).trans rfl
      have hfs24 := blk_frozen BK221.out 2
      have hns24_0 := NB216_221.out
      have hns24_1 := NB217_221.out
      have hns24_2 := NB218_221.out
      have hms24_0 := NB221_216.out
      have hms24_1 := NB221_217.out
      have hms24_2 := NB221_218.out
      have hs25 : w21.cell? ⟨gb221, 3, none⟩ = some (.int .i64 0) := (blk_cell BK221.out 3).trans rfl
      have hfs25 := blk_frozen BK221.out 3
      have hns25_0 := NB216_221.out
      have hns25_1 := NB217_221.out
      have hns25_2 := NB218_221.out
      have hms25_0 := NB221_216.out
      have hms25_1 := NB221_217.out
      have hms25_2 := NB221_218.out
      have hs26 : w21.cell? ⟨gb221, 4, none⟩ = some (.int .i64 0) := (blk_cell BK221.out 4).trans rfl
      have hfs26 := blk_frozen BK221.out 4
      have hns26_0 := NB216_221.out
      have hns26_1 := NB217_221.out
      have hns26_2 := NB218_221.out
      have hms26_0 := NB221_216.out
      have hms26_1 := NB221_217.out
      have hms26_2 := NB221_218.out
      have hs27 : w21.cell? ⟨gb221, 5, none⟩ = some (.int .i64 0) := (blk_cell BK221.out 5).trans rfl
      have hfs27 := blk_frozen BK221.out 5
      have hns27_0 := NB216_221.out
      have hns27_1 := NB217_221.out
      have hns27_2 := NB218_221.out
      have hms27_0 := NB221_216.out
      have hms27_1 := NB221_217.out
      have hms27_2 := NB221_218.out
      refine skip_ (w1 := ?_) (by rfl) rfl ?_ ?_
      rotate_left
      · go_simp
        rfl
      refine hK.out _ _ ⟨((cell_far (p := ⟨gb221, _, none⟩) NB217_221.out _).trans (((cell_far (p := ⟨gb221, _, none⟩) NB217_221.out _).trans (((cell_far (p := ⟨gb221, _, none⟩) NB217_221.out _).trans (((cell_far (p := ⟨gb221, _, none⟩) NB217_221.out _).trans (((cell_far (p := ⟨gb221, _, none⟩) NB217_221.out _).trans (((cell_far (p := ⟨gb221, _, none⟩) NB217_221.out _).trans (hHeld.1)))))))))))), ((cell_far (p := ⟨gb221, _, none⟩) NB217_221.out _).trans (((cell_far (p := ⟨gb221, _, none⟩) NB217_221.out _).trans (((cell_far (p := ⟨gb221, _, none⟩) NB217_221.out _).trans (((cell_far (p := ⟨gb221, _, none⟩) NB217_221.out _).trans (((cell_far (p := ⟨gb221, _, none⟩) NB217_221.out _).trans (((cell_far (p := ⟨gb221, _, none⟩) NB217_221.out _).trans (hHeld.2.1)))))))))))), ((cell_far (p := ⟨gb221, _, none⟩) NB217_221.out _).trans (((cell_far (p := ⟨gb221, _, none⟩) NB217_221.out _).trans (((cell_far (p := ⟨gb221, _, none⟩) NB217_221.out _).trans (((cell_far (p := ⟨gb221, _, none⟩) NB217_221.out _).trans (((cell_far (p := ⟨gb221, _, none⟩) NB217_221.out _).trans (((cell_far (p := ⟨gb221, _, none⟩) NB217_221.out _).trans (hHeld.2.2.1)))))))))))), ((cell_far (p := ⟨gb221, _, none⟩) NB217_221.out _).trans (((cell_far (p := ⟨gb221, _, none⟩) NB217_221.out _).trans (((cell_far (p := ⟨gb221, _, none⟩) NB217_221.out _).trans (((cell_far (p := ⟨gb221, _, none⟩) NB217_221.out _).trans (((cell_far (p := ⟨gb221, _, none⟩) NB217_221.out _).trans (((cell_far (p := ⟨gb221, _, none⟩) NB217_221.out _).trans (hHeld.2.2.2.1)))))))))))), ((cell_far (p := ⟨gb221, _, none⟩) NB217_221.out _).trans (((cell_far (p := ⟨gb221, _, none⟩) NB217_221.out _).trans (((cell_far (p := ⟨gb221, _, none⟩) NB217_221.out _).trans (((cell_far (p := ⟨gb221, _, none⟩) NB217_221.out _).trans (((cell_far (p := ⟨gb221, _, none⟩) NB217_221.out _).trans (((cell_far (p := ⟨gb221, _, none⟩) NB217_221.out _).trans (hHeld.2.2.2.2.1)))))))))))), ((cell_far (p := ⟨gb221, _, none⟩) NB216_221.out _).trans (((cell_far (p := ⟨gb221, _, none⟩) NB216_221.out _).trans (((cell_far (p := ⟨gb221, _, none⟩) NB216_221.out _).trans (((cell_far (p := ⟨gb221, _, none⟩) NB216_221.out _).trans (((cell_far (p := ⟨gb221, _, none⟩) NB216_221.out _).trans (((cell_far (p := ⟨gb221, _, none⟩) NB216_221.out _).trans (hHeld.2.2.2.2.2.1)))))))))))), ((cell_far (p := ⟨gb221, _, none⟩) NB216_221.out _).trans (((cell_far (p := ⟨gb221, _, none⟩) NB216_221.out _).trans (((cell_far (p := ⟨gb221, _, none⟩) NB216_221.out _).trans (((cell_far (p := ⟨gb221, _, none⟩) NB216_221.out _).trans (((cell_far (p := ⟨gb221, _, none⟩) NB216_221.out _).trans (((cell_far (p := ⟨gb221, _, none⟩) NB216_221.out _).trans (hHeld.2.2.2.2.2.2.1)))))))))))), ((cell_far (p := ⟨gb221, _, none⟩) NB216_221.out _).trans (((cell_far (p := ⟨gb221, _, none⟩) NB216_221.out _).trans (((cell_far (p := ⟨gb221, _, none⟩) NB216_221.out _).trans (((cell_far (p := ⟨gb221, _, none⟩) NB216_221.out _).trans (((cell_far (p := ⟨gb221, _, none⟩) NB216_221.out _).trans (((cell_far (p := ⟨gb221, _, none⟩) NB216_221.out _).trans (hHeld.2.2.2.2.2.2.2.1)))))))))))), ((cell_far (p := ⟨gb221, _, none⟩) NB216_221.out _).trans (((cell_far (p := ⟨gb221, _, none⟩) NB216_221.out _).trans (((cell_far (p := ⟨gb221, _, none⟩) NB216_221.out _).trans (((cell_far (p := ⟨gb221, _, none⟩) NB216_221.out _).trans (((cell_far (p := ⟨gb221, _, none⟩) NB216_221.out _).trans (((cell_far (p := ⟨gb221, _, none⟩) NB216_221.out _).trans (hHeld.2.2.2.2.2.2.2.2))))))))))))⟩ (fun hHeld => ?_)
      clear hK K
      refine done_ (done_of HT_.out z62_19) ?_
      have hnb28 := NB217_216.out
      have hnc28 := NB216_217.out
      have hnb29 := NB217_218.out
      have hnc29 := NB218_217.out
      have hnb30 := NB217_221.out
      have hnc30 := NB221_217.out
      have hcz31_0 : w21.cell? ⟨gb217, 0, none⟩ = some (.int .i64 a2_0) := (blk_cell BK217.out 0).trans rfl
      have hcz31_1 : w21.cell? ⟨gb217, 1, none⟩ = some (.int .i64 a2_1) := (blk_cell BK217.out 1).trans rfl
      have hcz31_2 : w21.cell? ⟨gb217, 2, none⟩ = some (.int .i64 a2_2) := (blk_cell BK217.out 2).trans rfl
      have hcz31_3 : w21.cell? ⟨gb217, 3, none⟩ = some (.int .i64 a2_3) := (blk_cell BK217.out 3).trans rfl
      have hcz31_4 : w21.cell? ⟨gb217, 4, none⟩ = some (.int .i64 a2_4) := (blk_cell BK217.out 4).trans rfl
      have hfz31_0 := blk_frozen BK217.out 0
      have hfz31_1 := blk_frozen BK217.out 1
      have hfz31_2 := blk_frozen BK217.out 2
      have hfz31_3 := blk_frozen BK217.out 3
      have hfz31_4 := blk_frozen BK217.out 4
      try go_wp2_with (first | ((with_reducible refine gate_callee (f := 38) rfl ?_); refine goesL_ (some 32) rfl rfl Try.func38 z62_19 rfl #[.int .i64 a1, .agg #[.int .i64 a2_0, .int .i64 a2_1, .int .i64 a2_2, .int .i64 a2_3, .int .i64 a2_4], .slice A3 l3.length c3, .int .i64 a4, .int .i64 a5, .int .i64 5] rfl z62_5 ?_; (with_reducible refine (impl_CheckQuote.calls k a1 a2_0 a2_1 a2_2 a2_3 a2_4 _ _ l3 a4 a5 5 true _ ?side1 ?side2 A10.out).mono ?_); (case side1 => exact Kd.C_below HR3.out z62_1); (case side2 => exact HC3.out); rintro e w32 ⟨rfl, hb⟩; refine ⟨_, rfl, ?_⟩; have n0_ := Aside0.mk (blk_below (g := gb216) (o := .cells #[.int .i64 a0_0, .slice A0_1 l0_1.length c0_1, .slice A0_2 l0_2.length c0_2, .slice A0_3 l0_3.length c0_3] 33 (0, 0)) z62_10 hb); have n1_ := Aside0.mk (blk_below (g := gb217) (o := .cells #[.int .i64 a2_0, .int .i64 a2_1, .int .i64 a2_2, .int .i64 a2_3, .int .i64 a2_4] 45 (0, 0)) z62_9 hb); have n2_ := Aside0.mk (blk_below (g := gb218) (o := .cells #[.int .i64 0, .int .i64 0, .int .i64 0, .int .i64 0, .int .i64 0, .int .i64 0] 83 (0, 0)) z62_8 hb); have n3_ := Aside0.mk (blk_below (g := gb221) (o := .cells #[.int .i64 3, .int .i64 a2_0, .int .i64 t219, .int .i64 1, .int .i64 a5, .int .i64 t220] 83 (0, 0)) z62_2 hb); have n4_ := Aside0.mk (below_step z62_1 hb); clear BK216; clear BK217; clear BK218; clear BK221; clear HB; have BK216 := n0_; have BK217 := n1_; have BK218 := n2_; have BK221 := n3_; have HB := n4_; clear n0_ n1_ n2_ n3_ n4_; (try clear hb); (try clear hb2); (try clear hk); (try clear hi); have hnb33 := NB221_216.out; have hnc33 := NB216_221.out; have hnb34 := NB221_218.out; have hnc34 := NB218_221.out; have hcz35_0 : w32.cell? ⟨gb221, 0, none⟩ = some (.int .i64 3) := (blk_cell BK221.out 0).trans rfl; have hcz35_1 : w32.cell? ⟨gb221, 1, none⟩ = some (.int .i64 a2_0) := (blk_cell BK221.out 1).trans rfl; have hcz35_2 : w32.cell? ⟨gb221, 2, none⟩ = some (.int .i64 t219) := (blk_cell BK221.out 2).trans rfl; have hcz35_3 : w32.cell? ⟨gb221, 3, none⟩ = some (.int .i64 1) := (blk_cell BK221.out 3).trans rfl; have hcz35_4 : w32.cell? ⟨gb221, 4, none⟩ = some (.int .i64 a5) := (blk_cell BK221.out 4).trans rfl; have hcz35_5 : w32.cell? ⟨gb221, 5, none⟩ = some (.int .i64 t220) := (blk_cell BK221.out 5).trans rfl; have hfz35_0 := blk_frozen BK221.out 0; have hfz35_1 := blk_frozen BK221.out 1; have hfz35_2 := blk_frozen BK221.out 2; have hfz35_3 := blk_frozen BK221.out 3; have hfz35_4 := blk_frozen BK221.out 4; have hfz35_5 := blk_frozen BK221.out 5) | (go_at_call 120; (with_reducible refine (impl_IsFact.calls 3 a2_0 t219 1 a5 t220 true _ A12.out).mono ?_); rintro e w36 ⟨rfl, hb⟩; have n0_ := Aside0.mk (blk_below (g := gb216) (o := .cells #[.int .i64 a0_0, .slice A0_1 l0_1.length c0_1, .slice A0_2 l0_2.length c0_2, .slice A0_3 l0_3.length c0_3] 33 (0, 0)) (pB62_ BK216.out) hb); have n1_ := Aside0.mk (blk_below (g := gb217) (o := .cells #[.int .i64 a2_0, .int .i64 a2_1, .int .i64 a2_2, .int .i64 a2_3, .int .i64 a2_4] 45 (0, 0)) (pB62_ BK217.out) hb); have n2_ := Aside0.mk (blk_below (g := gb218) (o := .cells #[.int .i64 0, .int .i64 0, .int .i64 0, .int .i64 0, .int .i64 0, .int .i64 0] 83 (0, 0)) (pB62_ BK218.out) hb); have n3_ := Aside0.mk (blk_below (g := gb221) (o := .cells #[.int .i64 3, .int .i64 a2_0, .int .i64 t219, .int .i64 1, .int .i64 a5, .int .i64 t220] 83 (0, 0)) (pB62_ BK221.out) hb); have n4_ := Aside0.mk (below_step z62_1 hb); clear BK216; clear BK217; clear BK218; clear BK221; clear HB; have BK216 := n0_; have BK217 := n1_; have BK218 := n2_; have BK221 := n3_; have HB := n4_; clear n0_ n1_ n2_ n3_ n4_; (try clear hb); (try clear hb2); (try clear hk); (try clear hi); have hcz37_0 : w36.cell? ⟨gb221, 0, none⟩ = some (.int .i64 3) := (blk_cell BK221.out 0).trans rfl; have hcz37_1 : w36.cell? ⟨gb221, 1, none⟩ = some (.int .i64 a2_0) := (blk_cell BK221.out 1).trans rfl; have hcz37_2 : w36.cell? ⟨gb221, 2, none⟩ = some (.int .i64 t219) := (blk_cell BK221.out 2).trans rfl; have hcz37_3 : w36.cell? ⟨gb221, 3, none⟩ = some (.int .i64 1) := (blk_cell BK221.out 3).trans rfl; have hcz37_4 : w36.cell? ⟨gb221, 4, none⟩ = some (.int .i64 a5) := (blk_cell BK221.out 4).trans rfl; have hcz37_5 : w36.cell? ⟨gb221, 5, none⟩ = some (.int .i64 t220) := (blk_cell BK221.out 5).trans rfl; have hfz37_0 := blk_frozen BK221.out 0; have hfz37_1 := blk_frozen BK221.out 1; have hfz37_2 := blk_frozen BK221.out 2; have hfz37_3 := blk_frozen BK221.out 3; have hfz37_4 := blk_frozen BK221.out 4; have hfz37_5 := blk_frozen BK221.out 5; have hnb38 := NB218_216.out; have hnc38 := NB216_218.out; have hcz39_0 : w36.cell? ⟨gb218, 0, none⟩ = some (.int .i64 0) := (blk_cell BK218.out 0).trans rfl; have hcz39_1 : w36.cell? ⟨gb218, 1, none⟩ = some (.int .i64 0) := (blk_cell BK218.out 1).trans rfl; have hcz39_2 : w36.cell? ⟨gb218, 2, none⟩ = some (.int .i64 0) := (blk_cell BK218.out 2).trans rfl; have hcz39_3 : w36.cell? ⟨gb218, 3, none⟩ = some (.int .i64 0) := (blk_cell BK218.out 3).trans rfl; have hcz39_4 : w36.cell? ⟨gb218, 4, none⟩ = some (.int .i64 0) := (blk_cell BK218.out 4).trans rfl; have hcz39_5 : w36.cell? ⟨gb218, 5, none⟩ = some (.int .i64 0) := (blk_cell BK218.out 5).trans rfl; have hfz39_0 := blk_frozen BK218.out 0; have hfz39_1 := blk_frozen BK218.out 1; have hfz39_2 := blk_frozen BK218.out 2; have hfz39_3 := blk_frozen BK218.out 3; have hfz39_4 := blk_frozen BK218.out 4; have hfz39_5 := blk_frozen BK218.out 5))
      refine bodyPost_ret (results_ct rfl _ _ gb218 83 #[.int .i64 3, .int .i64 a2_0, .int .i64 t219, .int .i64 1, .int .i64 a5, .int .i64 t220] (0, 0) _ rfl (by (with_reducible repeat (first | refine blk_drewN ?_ _ | refine blk_drew ?_ | refine blk_alloc ?_ _)); refine blk_put (cs := #[.int .i64 3, .int .i64 a2_0, .int .i64 t219, .int .i64 1, .int .i64 a5, .int .i64 0]) ?_ 5 _ rfl; (with_reducible repeat (first | refine blk_drewN ?_ _ | refine blk_drew ?_ | refine blk_alloc ?_ _)); refine blk_put (cs := #[.int .i64 3, .int .i64 a2_0, .int .i64 t219, .int .i64 1, .int .i64 0, .int .i64 0]) ?_ 4 _ rfl; (with_reducible repeat (first | refine blk_drewN ?_ _ | refine blk_drew ?_ | refine blk_alloc ?_ _)); refine blk_put (cs := #[.int .i64 3, .int .i64 a2_0, .int .i64 t219, .int .i64 0, .int .i64 0, .int .i64 0]) ?_ 3 _ rfl; (with_reducible repeat (first | refine blk_drewN ?_ _ | refine blk_drew ?_ | refine blk_alloc ?_ _)); refine blk_put (cs := #[.int .i64 3, .int .i64 a2_0, .int .i64 0, .int .i64 0, .int .i64 0, .int .i64 0]) ?_ 2 _ rfl; (with_reducible repeat (first | refine blk_drewN ?_ _ | refine blk_drew ?_ | refine blk_alloc ?_ _)); refine blk_put (cs := #[.int .i64 3, .int .i64 0, .int .i64 0, .int .i64 0, .int .i64 0, .int .i64 0]) ?_ 1 _ rfl; (with_reducible repeat (first | refine blk_drewN ?_ _ | refine blk_drew ?_ | refine blk_alloc ?_ _)); refine blk_put (cs := #[.int .i64 0, .int .i64 0, .int .i64 0, .int .i64 0, .int .i64 0, .int .i64 0]) ?_ 0 _ rfl; (with_reducible repeat (first | refine blk_drewN ?_ _ | refine blk_drew ?_ | refine blk_alloc ?_ _)); exact BK218.out) Try.underlying83 rfl z62_19) rfl ?_
      exact ⟨by first | rfl | (simp [errW_none, errW_some] <;> rfl) | (simp [*, errW_none, errW_some] <;> rfl), by repeat (first | (with_reducible first | exact HB.out | apply below_alloc | apply pw_below_drewN | apply below_drew1 | refine below_set ?_ GE216.out | refine below_set ?_ GE217.out | refine below_set ?_ GE218.out | refine below_set ?_ GE221.out) | exact HB.out)⟩
    · replace c13 := Bool.eq_false_iff.mpr c13
      subst c13
      have H1 : (some (0, 0, 0, 0, 0, 0, false)) = some (r1, r2, r3, r4, r5, r6, r7) := by rw [if_neg (show ¬ (false = true) by decide)] at H; exact H
      clear H
      have H := H1
      clear H1
      simp only [Option.some.injEq, Prod.mk.injEq] at H
      obtain ⟨rfl, rfl, rfl, rfl, rfl, rfl, rfl⟩ := H
      go_enter Try.func62, Try.ntmps62
      try go_wp2_with (first | ((with_reducible refine gate_dst (N := 7) rfl ?_); refine box_event ?hg (N := 7) ?hd (cs := #[.int .i64 a0_0, .slice A0_1 l0_1.length c0_1, .slice A0_2 l0_2.length c0_2, .slice A0_3 l0_3.length c0_3]) (t := 33) ?hr ?_; (case hd => rfl); (case hg => rfl); (case hr => first | (go_simp; done) | (go_simp; rfl)); intro gb216 hg w40 hbox hb; have n0_ := Aside0.mk (below_step z62_16 hb); have n1_ := Aside0.mk (hbox); have n2_ := Aside0.mk ((by rw [hg]; exact (below_size z62_16) : w.heap.size ≤ gb216)); have n3_ := Aside0.mk ((by rw [hg]; exact (below_size z62_16) : w.heap.size ≤ gb216)); clear HB; have HB := n0_; have BK216 := n1_; have GW216 := n2_; have GE216 := n3_; clear n0_ n1_ n2_ n3_; clear hb hbox hg) | ((with_reducible refine gate_dst (N := 9) rfl ?_); refine box_event ?hg (N := 9) ?hd (cs := #[.int .i64 a2_0, .int .i64 a2_1, .int .i64 a2_2, .int .i64 a2_3, .int .i64 a2_4]) (t := 45) ?hr ?_; (case hd => rfl); (case hg => rfl); (case hr => first | (go_simp; done) | (go_simp; rfl)); intro gb217 hg w41 hbox hb; have n0_ := Aside0.mk (blk_below (g := gb216) (o := .cells #[.int .i64 a0_0, .slice A0_1 l0_1.length c0_1, .slice A0_2 l0_2.length c0_2, .slice A0_3 l0_3.length c0_3] 33 (0, 0)) (pB62_ BK216.out) hb); have n1_ := Aside0.mk (below_step z62_15 hb); have n2_ := Aside0.mk (hbox); have n3_ := Aside0.mk ((by rw [hg]; exact (below_size z62_15) : w.heap.size ≤ gb217)); have n4_ := Aside0.mk ((by rw [hg]; exact (below_size z62_15) : w.heap.size ≤ gb217)); have n5_ := Aside0.mk ((z62_3 : gb216 ≠ gb217)); have n6_ := Aside0.mk ((z62_4 : gb217 ≠ gb216)); clear BK216; clear HB; have BK216 := n0_; have HB := n1_; have BK217 := n2_; have GW217 := n3_; have GE217 := n4_; have NB216_217 := n5_; have NB217_216 := n6_; clear n0_ n1_ n2_ n3_ n4_ n5_ n6_; clear hb hbox hg) | ((with_reducible refine gate_dst (N := 14) rfl ?_); refine box_event ?hg (N := 14) ?hd (cs := #[.int .i64 0, .int .i64 0, .int .i64 0, .int .i64 0, .int .i64 0, .int .i64 0]) (t := 83) ?hr ?_; (case hd => rfl); (case hg => rfl); (case hr => first | (go_simp; done) | (go_simp; rfl)); intro gb218 hg w42 hbox hb; have n0_ := Aside0.mk (blk_below (g := gb216) (o := .cells #[.int .i64 a0_0, .slice A0_1 l0_1.length c0_1, .slice A0_2 l0_2.length c0_2, .slice A0_3 l0_3.length c0_3] 33 (0, 0)) (pB62_ BK216.out) hb); have n1_ := Aside0.mk (blk_below (g := gb217) (o := .cells #[.int .i64 a2_0, .int .i64 a2_1, .int .i64 a2_2, .int .i64 a2_3, .int .i64 a2_4] 45 (0, 0)) (pB62_ BK217.out) hb); have n2_ := Aside0.mk (below_step z62_11 hb); have n3_ := Aside0.mk (hbox); have n4_ := Aside0.mk ((by rw [hg]; exact (below_size z62_11) : w.heap.size ≤ gb218)); have n5_ := Aside0.mk ((by rw [hg]; exact (below_size z62_11) : w.heap.size ≤ gb218)); have n6_ := Aside0.mk ((z62_3 : gb216 ≠ gb218)); have n7_ := Aside0.mk ((z62_4 : gb218 ≠ gb216)); have n8_ := Aside0.mk ((z62_6 : gb217 ≠ gb218)); have n9_ := Aside0.mk ((z62_7 : gb218 ≠ gb217)); clear BK216; clear BK217; clear HB; have BK216 := n0_; have BK217 := n1_; have HB := n2_; have BK218 := n3_; have GW218 := n4_; have GE218 := n5_; have NB216_218 := n6_; have NB218_216 := n7_; have NB217_218 := n8_; have NB218_217 := n9_; clear n0_ n1_ n2_ n3_ n4_ n5_ n6_ n7_ n8_ n9_; clear hb hbox hg))
      have n0_ := Aside0.mk (blk_drew BK216.out)
      have n1_ := Aside0.mk (blk_drew BK217.out)
      have n2_ := Aside0.mk (blk_drew BK218.out)
      have n3_ := Aside0.mk (below_drew1 HB.out)
      clear BK216
      clear BK217
      clear BK218
      clear HB
      have BK216 := n0_
      have BK217 := n1_
      have BK218 := n2_
      have HB := n3_
      clear n0_ n1_ n2_ n3_
      refine start_ (n := 12) (S := fun w' => w'.cell? ⟨gb217, 0, none⟩ = some (.int .i64 a2_0) ∧ w'.cell? ⟨gb217, 1, none⟩ = some (.int .i64 a2_1) ∧ w'.cell? ⟨gb217, 2, none⟩ = some (.int .i64 a2_2) ∧ w'.cell? ⟨gb217, 3, none⟩ = some (.int .i64 a2_3) ∧ w'.cell? ⟨gb217, 4, none⟩ = some (.int .i64 a2_4) ∧ w'.cell? ⟨gb216, 0, none⟩ = some (.int .i64 a0_0) ∧ w'.cell? ⟨gb216, 1, none⟩ = some (.slice A0_1 l0_1.length c0_1) ∧ w'.cell? ⟨gb216, 2, none⟩ = some (.slice A0_2 l0_2.length c0_2) ∧ w'.cell? ⟨gb216, 3, none⟩ = some (.slice A0_3 l0_3.length c0_3)) (ds := []) #[false, false, false, false, false, false, false, false, false, false, false, false] z62_19 rfl rfl ⟨(blk_cell BK217.out 0).trans rfl, (blk_cell BK217.out 1).trans rfl, (blk_cell BK217.out 2).trans rfl, (blk_cell BK217.out 3).trans rfl, (blk_cell BK217.out 4).trans rfl, (blk_cell BK216.out 0).trans rfl, (blk_cell BK216.out 1).trans rfl, (blk_cell BK216.out 2).trans rfl, (blk_cell BK216.out 3).trans rfl⟩ (fun hHeld => ?_); refine with_tabW impl_HealthFact.tab1 impl_HealthFact.bits1 (fun HT_ HW_ => ?_)
      generalize w42.drew = w43 at BK216 BK217 BK218 HB hHeld ⊢
      refine pure_ (i := 0) (N := some 17) (v := ?_) (a' := ?_) #[true, false, false, false, false, false, false, false, false, false, false, false] rfl rfl (any_of HT_.out z62_19) (fun _ _ _ h => h) (Or.inl ⟨by rfl, ?_⟩) ?_ ?_
      rotate_left
      · intro w'
        go_simp
        with_reducible rfl
      rotate_left
      · simp only [Act.put, List.setIfInBounds_toArray, List.set_cons_zero, List.set_cons_succ, i64_w, i32_w]
        rfl
      refine pure_ (i := 3) (N := some 20) (v := ?_) (a' := ?_) #[true, false, false, true, false, false, false, false, false, false, false, false] rfl rfl (any_of HT_.out z62_19) (fun _ _ _ h => h) (Or.inl ⟨by rfl, ?_⟩) ?_ ?_
      rotate_left
      · intro w'
        go_simp
        with_reducible rfl
      rotate_left
      · simp only [Act.put, List.setIfInBounds_toArray, List.set_cons_zero, List.set_cons_succ, i64_w, i32_w]
        rfl
      refine pure_ (i := 5) (N := some 22) (v := ?_) (a' := ?_) #[true, false, false, true, false, true, false, false, false, false, false, false] rfl rfl (any_of HT_.out z62_19) (fun _ _ _ h => h) (Or.inl ⟨by rfl, ?_⟩) ?_ ?_
      rotate_left
      · intro w'
        go_simp
        with_reducible rfl
      rotate_left
      · simp only [Act.put, List.setIfInBounds_toArray, List.set_cons_zero, List.set_cons_succ, i64_w, i32_w]
        rfl
      refine pure_ (i := 6) (N := some 23) (v := ?_) (a' := ?_) #[true, false, false, true, false, true, true, false, false, false, false, false] rfl rfl (any_of HT_.out z62_19) (fun _ _ _ h => h) (Or.inl ⟨by rfl, ?_⟩) ?_ ?_
      rotate_left
      · intro w'
        go_simp
        with_reducible rfl
      rotate_left
      · simp only [Act.put, List.setIfInBounds_toArray, List.set_cons_zero, List.set_cons_succ, i64_w, i32_w]
        rfl
      refine pure_ (i := 7) (N := some 24) (v := ?_) (a' := ?_) #[true, false, false, true, false, true, true, true, false, false, false, false] rfl rfl (any_of HT_.out z62_19) (fun _ _ _ h => h) (Or.inl ⟨by rfl, ?_⟩) ?_ ?_
      rotate_left
      · intro w'
        go_simp
        with_reducible rfl
      rotate_left
      · simp only [Act.put, List.setIfInBounds_toArray, List.set_cons_zero, List.set_cons_succ, i64_w, i32_w]
        rfl
      refine take_ (i := 1) (N := some 18) (v := ?_) (a' := ?_) #[true, true, false, true, false, true, true, true, false, false, false, false] rfl rfl (take_ofW HT_.out HW_.out z62_19) (fun _ _ _ h => h) (Or.inl ⟨by rfl, ?_⟩) hHeld ?_ ?_
      rotate_left
      · rintro w' ⟨s0, s1, s2, s3, s4, s5, s6, s7, s8⟩
        go_simp
        with_reducible rfl
      rotate_left
      · simp only [Act.put, List.setIfInBounds_toArray, List.set_cons_zero, List.set_cons_succ, i64_w, i32_w]
        rfl
      refine take_ (i := 2) (N := some 19) (v := ?_) (a' := ?_) #[true, true, true, true, false, true, true, true, false, false, false, false] rfl rfl (take_ofW HT_.out HW_.out z62_19) (fun _ _ _ h => h) (Or.inl ⟨by rfl, ?_⟩) hHeld ?_ ?_
      rotate_left
      · rintro w' ⟨s0, s1, s2, s3, s4, s5, s6, s7, s8⟩
        go_simp
        with_reducible rfl
      rotate_left
      · simp only [Act.put, List.setIfInBounds_toArray, List.set_cons_zero, List.set_cons_succ, i64_w, i32_w]
        rfl
      refine join_ (σ := Nat) 1 #[true, true, true, true, true, true, true, true, true, true, true, false] (fun s_ => [(21, .int .i64 t219), (25, .int .i64 t220), (16, .pointer (some ⟨s_, 0, none⟩)), (26, .agg #[.int .i64 3, .int .i64 a2_0, .int .i64 t219, .int .i64 1, .int .i64 a5, .int .i64 t220])]) (fun s_ w' => (w'.cell? ⟨gb217, 0, none⟩ = some (.int .i64 a2_0) ∧ w'.cell? ⟨gb217, 1, none⟩ = some (.int .i64 a2_1) ∧ w'.cell? ⟨gb217, 2, none⟩ = some (.int .i64 a2_2) ∧ w'.cell? ⟨gb217, 3, none⟩ = some (.int .i64 a2_3) ∧ w'.cell? ⟨gb217, 4, none⟩ = some (.int .i64 a2_4) ∧ w'.cell? ⟨gb216, 0, none⟩ = some (.int .i64 a0_0) ∧ w'.cell? ⟨gb216, 1, none⟩ = some (.slice A0_1 l0_1.length c0_1) ∧ w'.cell? ⟨gb216, 2, none⟩ = some (.slice A0_2 l0_2.length c0_2) ∧ w'.cell? ⟨gb216, 3, none⟩ = some (.slice A0_3 l0_3.length c0_3)) ∧ (w'.heap[gb216]? = some (.cells #[.int .i64 a0_0, .slice A0_1 l0_1.length c0_1, .slice A0_2 l0_2.length c0_2, .slice A0_3 l0_3.length c0_3] 33 (0, 0))) ∧ (w'.heap[gb217]? = some (.cells #[.int .i64 a2_0, .int .i64 a2_1, .int .i64 a2_2, .int .i64 a2_3, .int .i64 a2_4] 45 (0, 0))) ∧ (w'.heap[gb218]? = some (.cells #[.int .i64 0, .int .i64 0, .int .i64 0, .int .i64 0, .int .i64 0, .int .i64 0] 83 (0, 0))) ∧ (w'.heap[s_]? = some (.cells #[.int .i64 0, .int .i64 0, .int .i64 0, .int .i64 0, .int .i64 0, .int .i64 0] 83 (0, 0))) ∧ (w.heap.size ≤ s_) ∧ (w.heap.size ≤ s_) ∧ (gb216 ≠ s_) ∧ (s_ ≠ gb216) ∧ (gb217 ≠ s_) ∧ (s_ ≠ gb217) ∧ (gb218 ≠ s_) ∧ (s_ ≠ gb218) ∧ (Below w.heap.size w w')) ?_ ?_
      rotate_left
      · intro hCont
        refine two_ (i := 4) (j := 10) (Ni := some 21) (Nj := some 16) #[true, true, true, true, true, true, true, true, false, false, false, false] #[true, true, true, true, false, true, true, true, false, false, true, false] rfl rfl rfl rfl (two_of HT_.out z62_19) (by decide) (by decide) (fun K hK => ?_) (fun K hK => ?_)
        · skip
          refine goes_ Try.func29 z62_19 rfl #[.agg #[.int .i64 a0_0, .slice A0_1 l0_1.length c0_1, .slice A0_2 l0_2.length c0_2, .slice A0_3 l0_3.length c0_3], .slice A3 l3.length c3] (by rfl) rfl rfl z62_5 ?_
          with_reducible refine (impl_AppraiseLog.calls k a0_0 _ _ l0_1 _ _ l0_2 _ _ l0_3 _ _ l3 t219 _ ?side1 ?side2 ?side3 ?side4 ?side5 ?side6 ?side7 ?side8 A8.out).mono ?_
          (case side1 => repeat (first | exact (Kd.C_below HR0_1.out HB.out) | (with_reducible refine Kd.C_alloc ?_ _) | (with_reducible refine Kd.C_drewN ?_ _) | (with_reducible refine Kd.C_drew ?_)))
          (case side2 => exact HC0_1.out)
          (case side3 => repeat (first | exact (Kd.C_below HR0_2.out HB.out) | (with_reducible refine Kd.C_alloc ?_ _) | (with_reducible refine Kd.C_drewN ?_ _) | (with_reducible refine Kd.C_drew ?_)))
          (case side4 => exact HC0_2.out)
          (case side5 => repeat (first | exact (Kd.C_below HR0_3.out HB.out) | (with_reducible refine Kd.C_alloc ?_ _) | (with_reducible refine Kd.C_drewN ?_ _) | (with_reducible refine Kd.C_drew ?_)))
          (case side6 => exact HC0_3.out)
          (case side7 => repeat (first | exact (Kd.C_below HR3.out HB.out) | (with_reducible refine Kd.C_alloc ?_ _) | (with_reducible refine Kd.C_drewN ?_ _) | (with_reducible refine Kd.C_drew ?_)))
          (case side8 => exact HC3.out)
          rintro e w44 ⟨rfl, hb⟩
          refine ⟨_, rfl, ?_⟩
          have n0_ := Aside0.mk (blk_below (g := gb216) (o := .cells #[.int .i64 a0_0, .slice A0_1 l0_1.length c0_1, .slice A0_2 l0_2.length c0_2, .slice A0_3 l0_3.length c0_3] 33 (0, 0)) (pB62_ BK216.out) hb)
          have n1_ := Aside0.mk (blk_below (g := gb217) (o := .cells #[.int .i64 a2_0, .int .i64 a2_1, .int .i64 a2_2, .int .i64 a2_3, .int .i64 a2_4] 45 (0, 0)) (pB62_ BK217.out) hb)
          have n2_ := Aside0.mk (blk_below (g := gb218) (o := .cells #[.int .i64 0, .int .i64 0, .int .i64 0, .int .i64 0, .int .i64 0, .int .i64 0] 83 (0, 0)) (pB62_ BK218.out) hb)
          have n3_ := Aside0.mk (below_step z62_0 hb)
          clear BK216
          clear BK217
          clear BK218
          clear HB
          have BK216 := n0_
          have BK217 := n1_
          have BK218 := n2_
          have HB := n3_
          clear n0_ n1_ n2_ n3_
          (try clear hb)
          (try clear hb2)
          (try clear hk)
          (try clear hi)
          refine hK.out _ _ ⟨(blk_cell BK217.out 0).trans rfl, (blk_cell BK217.out 1).trans rfl, (blk_cell BK217.out 2).trans rfl, (blk_cell BK217.out 3).trans rfl, (blk_cell BK217.out 4).trans rfl, (blk_cell BK216.out 0).trans rfl, (blk_cell BK216.out 1).trans rfl, (blk_cell BK216.out 2).trans rfl, (blk_cell BK216.out 3).trans rfl⟩ (fun hHeld => ?_)
          clear hK K
          refine norm_ (a' := ?_) ?_ ?_
          rotate_left
          · show Act.put _ (some 21) _ = _
            simp only [Act.put, List.setIfInBounds_toArray, List.set_cons_zero, List.set_cons_succ, i64_w, i32_w]
            rfl
          refine two_ (i := 8) (j := 10) (Ni := some 25) (Nj := some 16) #[true, true, true, true, true, true, true, true, true, false, false, false] #[true, true, true, true, true, true, true, true, false, false, true, false] rfl rfl rfl rfl (two_of HT_.out z62_19) (by decide) (by decide) (fun K hK => ?_) (fun K hK => ?_)
          · skip
            refine goes_ Try.func108 z62_19 rfl #[.int .i64 a5, .int .i64 a6] (by rfl) rfl rfl z62_5 ?_
            with_reducible refine (impl_EndOf.calls a5 a6 t220 _ A9.out).mono ?_
            rintro e w45 ⟨rfl, hb⟩
            refine ⟨_, rfl, ?_⟩
            have n0_ := Aside0.mk (blk_below (g := gb216) (o := .cells #[.int .i64 a0_0, .slice A0_1 l0_1.length c0_1, .slice A0_2 l0_2.length c0_2, .slice A0_3 l0_3.length c0_3] 33 (0, 0)) (pB62_ BK216.out) hb)
            have n1_ := Aside0.mk (blk_below (g := gb217) (o := .cells #[.int .i64 a2_0, .int .i64 a2_1, .int .i64 a2_2, .int .i64 a2_3, .int .i64 a2_4] 45 (0, 0)) (pB62_ BK217.out) hb)
            have n2_ := Aside0.mk (blk_below (g := gb218) (o := .cells #[.int .i64 0, .int .i64 0, .int .i64 0, .int .i64 0, .int .i64 0, .int .i64 0] 83 (0, 0)) (pB62_ BK218.out) hb)
            have n3_ := Aside0.mk (below_step z62_0 hb)
            clear BK216
            clear BK217
            clear BK218
            clear HB
            have BK216 := n0_
            have BK217 := n1_
            have BK218 := n2_
            have HB := n3_
            clear n0_ n1_ n2_ n3_
            (try clear hb)
            (try clear hb2)
            (try clear hk)
            (try clear hi)
            refine hK.out _ _ ⟨(blk_cell BK217.out 0).trans rfl, (blk_cell BK217.out 1).trans rfl, (blk_cell BK217.out 2).trans rfl, (blk_cell BK217.out 3).trans rfl, (blk_cell BK217.out 4).trans rfl, (blk_cell BK216.out 0).trans rfl, (blk_cell BK216.out 1).trans rfl, (blk_cell BK216.out 2).trans rfl, (blk_cell BK216.out 3).trans rfl⟩ (fun hHeld => ?_)
            clear hK K
            refine norm_ (a' := ?_) ?_ ?_
            rotate_left
            · show Act.put _ (some 25) _ = _
              simp only [Act.put, List.setIfInBounds_toArray, List.set_cons_zero, List.set_cons_succ, i64_w, i32_w]
              rfl
            refine pure_ (i := 9) (N := some 26) (v := ?_) (a' := ?_) #[true, true, true, true, true, true, true, true, true, true, false, false] rfl rfl (any_of HT_.out z62_19) (fun _ _ _ h => h) (Or.inl ⟨by rfl, ?_⟩) ?_ ?_
            rotate_left
            · intro w'
              go_simp
              with_reducible rfl
            rotate_left
            · simp only [Act.put, List.setIfInBounds_toArray, List.set_cons_zero, List.set_cons_succ, i64_w, i32_w]
              rfl
            refine one_ (i := 10) (N := some 16) #[true, true, true, true, true, true, true, true, true, true, true, false] rfl rfl (one_of HT_.out z62_19) (by decide) (fun K hK => ?_)
            refine box_step ?hg (N := 16) ?hd (cs := #[.int .i64 0, .int .i64 0, .int .i64 0, .int .i64 0, .int .i64 0, .int .i64 0]) (t := 83) ?hr ?_; (case hd => rfl); (case hg => rfl); (case hr => first | (go_simp; done) | (go_simp; rfl))
            intro gb221 hg w46 hbox hb
            have n0_ := Aside0.mk (blk_below (g := gb216) (o := .cells #[.int .i64 a0_0, .slice A0_1 l0_1.length c0_1, .slice A0_2 l0_2.length c0_2, .slice A0_3 l0_3.length c0_3] 33 (0, 0)) (pB62_ BK216.out) hb)
            have n1_ := Aside0.mk (blk_below (g := gb217) (o := .cells #[.int .i64 a2_0, .int .i64 a2_1, .int .i64 a2_2, .int .i64 a2_3, .int .i64 a2_4] 45 (0, 0)) (pB62_ BK217.out) hb)
            have n2_ := Aside0.mk (blk_below (g := gb218) (o := .cells #[.int .i64 0, .int .i64 0, .int .i64 0, .int .i64 0, .int .i64 0, .int .i64 0] 83 (0, 0)) (pB62_ BK218.out) hb)
            have n3_ := Aside0.mk (below_step z62_0 hb)
            have n4_ := Aside0.mk (hbox)
            have n5_ := Aside0.mk ((z62_18 : w.heap.size ≤ gb221))
            have n6_ := Aside0.mk ((z62_18 : w.heap.size ≤ gb221))
            have n7_ := Aside0.mk ((z62_3 : gb216 ≠ gb221))
            have n8_ := Aside0.mk ((z62_4 : gb221 ≠ gb216))
            have n9_ := Aside0.mk ((z62_6 : gb217 ≠ gb221))
            have n10_ := Aside0.mk ((z62_7 : gb221 ≠ gb217))
            have n11_ := Aside0.mk ((z62_13 : gb218 ≠ gb221))
            have n12_ := Aside0.mk ((z62_14 : gb221 ≠ gb218))
            clear BK216
            clear BK217
            clear BK218
            clear HB
            have BK216 := n0_
            have BK217 := n1_
            have BK218 := n2_
            have HB := n3_
            have BK221 := n4_
            have GW221 := n5_
            have GE221 := n6_
            have NB216_221 := n7_
            have NB221_216 := n8_
            have NB217_221 := n9_
            have NB221_217 := n10_
            have NB218_221 := n11_
            have NB221_218 := n12_
            clear n0_ n1_ n2_ n3_ n4_ n5_ n6_ n7_ n8_ n9_ n10_ n11_ n12_
            clear hb hbox hg
            refine hK.out _ _ ⟨(blk_cell BK217.out 0).trans rfl, (blk_cell BK217.out 1).trans rfl, (blk_cell BK217.out 2).trans rfl, (blk_cell BK217.out 3).trans rfl, (blk_cell BK217.out 4).trans rfl, (blk_cell BK216.out 0).trans rfl, (blk_cell BK216.out 1).trans rfl, (blk_cell BK216.out 2).trans rfl, (blk_cell BK216.out 3).trans rfl⟩ (fun hHeld => ?_)
            clear hK K
            refine norm_ (a' := ?_) ?_ ?_
            rotate_left
            · show Act.put _ (some 16) _ = _
              simp only [Act.put, List.setIfInBounds_toArray, List.set_cons_zero, List.set_cons_succ, i64_w, i32_w]
              rfl
            exact norm_ z62_17 (hCont (gb221) _ ⟨hHeld, (pB62_ BK216.out), (pB62_ BK217.out), (pB62_ BK218.out), (pB62_ BK221.out), GW221.out, GE221.out, NB216_221.out, NB221_216.out, NB217_221.out, NB221_217.out, NB218_221.out, NB221_218.out, z62_1⟩)
          · skip
            refine box_step ?hg (N := 16) ?hd (cs := #[.int .i64 0, .int .i64 0, .int .i64 0, .int .i64 0, .int .i64 0, .int .i64 0]) (t := 83) ?hr ?_; (case hd => rfl); (case hg => rfl); (case hr => first | (go_simp; done) | (go_simp; rfl))
            intro gb221 hg w45 hbox hb
            have n0_ := Aside0.mk (blk_below (g := gb216) (o := .cells #[.int .i64 a0_0, .slice A0_1 l0_1.length c0_1, .slice A0_2 l0_2.length c0_2, .slice A0_3 l0_3.length c0_3] 33 (0, 0)) (pB62_ BK216.out) hb)
            have n1_ := Aside0.mk (blk_below (g := gb217) (o := .cells #[.int .i64 a2_0, .int .i64 a2_1, .int .i64 a2_2, .int .i64 a2_3, .int .i64 a2_4] 45 (0, 0)) (pB62_ BK217.out) hb)
            have n2_ := Aside0.mk (blk_below (g := gb218) (o := .cells #[.int .i64 0, .int .i64 0, .int .i64 0, .int .i64 0, .int .i64 0, .int .i64 0] 83 (0, 0)) (pB62_ BK218.out) hb)
            have n3_ := Aside0.mk (below_step z62_0 hb)
            have n4_ := Aside0.mk (hbox)
            have n5_ := Aside0.mk ((z62_18 : w.heap.size ≤ gb221))
            have n6_ := Aside0.mk ((z62_18 : w.heap.size ≤ gb221))
            have n7_ := Aside0.mk ((z62_3 : gb216 ≠ gb221))
            have n8_ := Aside0.mk ((z62_4 : gb221 ≠ gb216))
            have n9_ := Aside0.mk ((z62_6 : gb217 ≠ gb221))
            have n10_ := Aside0.mk ((z62_7 : gb221 ≠ gb217))
            have n11_ := Aside0.mk ((z62_13 : gb218 ≠ gb221))
            have n12_ := Aside0.mk ((z62_14 : gb221 ≠ gb218))
            clear BK216
            clear BK217
            clear BK218
            clear HB
            have BK216 := n0_
            have BK217 := n1_
            have BK218 := n2_
            have HB := n3_
            have BK221 := n4_
            have GW221 := n5_
            have GE221 := n6_
            have NB216_221 := n7_
            have NB221_216 := n8_
            have NB217_221 := n9_
            have NB221_217 := n10_
            have NB218_221 := n11_
            have NB221_218 := n12_
            clear n0_ n1_ n2_ n3_ n4_ n5_ n6_ n7_ n8_ n9_ n10_ n11_ n12_
            clear hb hbox hg
            refine hK.out _ _ ⟨(blk_cell BK217.out 0).trans rfl, (blk_cell BK217.out 1).trans rfl, (blk_cell BK217.out 2).trans rfl, (blk_cell BK217.out 3).trans rfl, (blk_cell BK217.out 4).trans rfl, (blk_cell BK216.out 0).trans rfl, (blk_cell BK216.out 1).trans rfl, (blk_cell BK216.out 2).trans rfl, (blk_cell BK216.out 3).trans rfl⟩ (fun hHeld => ?_)
            clear hK K
            refine norm_ (a' := ?_) ?_ ?_
            rotate_left
            · show Act.put _ (some 16) _ = _
              simp only [Act.put, List.setIfInBounds_toArray, List.set_cons_zero, List.set_cons_succ, i64_w, i32_w]
              rfl
            refine one_ (i := 8) (N := some 25) #[true, true, true, true, true, true, true, true, true, false, true, false] rfl rfl (one_of HT_.out z62_19) (by decide) (fun K hK => ?_)
            refine goes_ Try.func108 z62_19 rfl #[.int .i64 a5, .int .i64 a6] (by rfl) rfl rfl z62_5 ?_
            with_reducible refine (impl_EndOf.calls a5 a6 t220 _ A9.out).mono ?_
            rintro e w46 ⟨rfl, hb⟩
            refine ⟨_, rfl, ?_⟩
            have n0_ := Aside0.mk (blk_below (g := gb216) (o := .cells #[.int .i64 a0_0, .slice A0_1 l0_1.length c0_1, .slice A0_2 l0_2.length c0_2, .slice A0_3 l0_3.length c0_3] 33 (0, 0)) (pB62_ BK216.out) hb)
            have n1_ := Aside0.mk (blk_below (g := gb217) (o := .cells #[.int .i64 a2_0, .int .i64 a2_1, .int .i64 a2_2, .int .i64 a2_3, .int .i64 a2_4] 45 (0, 0)) (pB62_ BK217.out) hb)
            have n2_ := Aside0.mk (blk_below (g := gb218) (o := .cells #[.int .i64 0, .int .i64 0, .int .i64 0, .int .i64 0, .int .i64 0, .int .i64 0] 83 (0, 0)) (pB62_ BK218.out) hb)
            have n3_ := Aside0.mk (blk_below (g := gb221) (o := .cells #[.int .i64 0, .int .i64 0, .int .i64 0, .int .i64 0, .int .i64 0, .int .i64 0] 83 (0, 0)) (pB62_ BK221.out) hb)
            have n4_ := Aside0.mk (below_step z62_1 hb)
            clear BK216
            clear BK217
            clear BK218
            clear BK221
            clear HB
            have BK216 := n0_
            have BK217 := n1_
            have BK218 := n2_
            have BK221 := n3_
            have HB := n4_
            clear n0_ n1_ n2_ n3_ n4_
            (try clear hb)
            (try clear hb2)
            (try clear hk)
            (try clear hi)
            refine hK.out _ _ ⟨(blk_cell BK217.out 0).trans rfl, (blk_cell BK217.out 1).trans rfl, (blk_cell BK217.out 2).trans rfl, (blk_cell BK217.out 3).trans rfl, (blk_cell BK217.out 4).trans rfl, (blk_cell BK216.out 0).trans rfl, (blk_cell BK216.out 1).trans rfl, (blk_cell BK216.out 2).trans rfl, (blk_cell BK216.out 3).trans rfl⟩ (fun hHeld => ?_)
            clear hK K
            refine norm_ (a' := ?_) ?_ ?_
            rotate_left
            · show Act.put _ (some 25) _ = _
              simp only [Act.put, List.setIfInBounds_toArray, List.set_cons_zero, List.set_cons_succ, i64_w, i32_w]
              rfl
            refine pure_ (i := 9) (N := some 26) (v := ?_) (a' := ?_) #[true, true, true, true, true, true, true, true, true, true, true, false] rfl rfl (any_of HT_.out z62_19) (fun _ _ _ h => h) (Or.inl ⟨by rfl, ?_⟩) ?_ ?_
            rotate_left
            · intro w'
              go_simp
              with_reducible rfl
            rotate_left
            · simp only [Act.put, List.setIfInBounds_toArray, List.set_cons_zero, List.set_cons_succ, i64_w, i32_w]
              rfl
            exact norm_ z62_17 (hCont (gb221) _ ⟨hHeld, (pB62_ BK216.out), (pB62_ BK217.out), (pB62_ BK218.out), (pB62_ BK221.out), GW221.out, GE221.out, NB216_221.out, NB221_216.out, NB217_221.out, NB221_217.out, NB218_221.out, NB221_218.out, z62_1⟩)
        · skip
          refine box_step ?hg (N := 16) ?hd (cs := #[.int .i64 0, .int .i64 0, .int .i64 0, .int .i64 0, .int .i64 0, .int .i64 0]) (t := 83) ?hr ?_; (case hd => rfl); (case hg => rfl); (case hr => first | (go_simp; done) | (go_simp; rfl))
          intro gb221 hg w44 hbox hb
          have n0_ := Aside0.mk (blk_below (g := gb216) (o := .cells #[.int .i64 a0_0, .slice A0_1 l0_1.length c0_1, .slice A0_2 l0_2.length c0_2, .slice A0_3 l0_3.length c0_3] 33 (0, 0)) (pB62_ BK216.out) hb)
          have n1_ := Aside0.mk (blk_below (g := gb217) (o := .cells #[.int .i64 a2_0, .int .i64 a2_1, .int .i64 a2_2, .int .i64 a2_3, .int .i64 a2_4] 45 (0, 0)) (pB62_ BK217.out) hb)
          have n2_ := Aside0.mk (blk_below (g := gb218) (o := .cells #[.int .i64 0, .int .i64 0, .int .i64 0, .int .i64 0, .int .i64 0, .int .i64 0] 83 (0, 0)) (pB62_ BK218.out) hb)
          have n3_ := Aside0.mk (below_step z62_0 hb)
          have n4_ := Aside0.mk (hbox)
          have n5_ := Aside0.mk ((z62_18 : w.heap.size ≤ gb221))
          have n6_ := Aside0.mk ((z62_18 : w.heap.size ≤ gb221))
          have n7_ := Aside0.mk ((z62_3 : gb216 ≠ gb221))
          have n8_ := Aside0.mk ((z62_4 : gb221 ≠ gb216))
          have n9_ := Aside0.mk ((z62_6 : gb217 ≠ gb221))
          have n10_ := Aside0.mk ((z62_7 : gb221 ≠ gb217))
          have n11_ := Aside0.mk ((z62_13 : gb218 ≠ gb221))
          have n12_ := Aside0.mk ((z62_14 : gb221 ≠ gb218))
          clear BK216
          clear BK217
          clear BK218
          clear HB
          have BK216 := n0_
          have BK217 := n1_
          have BK218 := n2_
          have HB := n3_
          have BK221 := n4_
          have GW221 := n5_
          have GE221 := n6_
          have NB216_221 := n7_
          have NB221_216 := n8_
          have NB217_221 := n9_
          have NB221_217 := n10_
          have NB218_221 := n11_
          have NB221_218 := n12_
          clear n0_ n1_ n2_ n3_ n4_ n5_ n6_ n7_ n8_ n9_ n10_ n11_ n12_
          clear hb hbox hg
          refine hK.out _ _ ⟨(blk_cell BK217.out 0).trans rfl, (blk_cell BK217.out 1).trans rfl, (blk_cell BK217.out 2).trans rfl, (blk_cell BK217.out 3).trans rfl, (blk_cell BK217.out 4).trans rfl, (blk_cell BK216.out 0).trans rfl, (blk_cell BK216.out 1).trans rfl, (blk_cell BK216.out 2).trans rfl, (blk_cell BK216.out 3).trans rfl⟩ (fun hHeld => ?_)
          clear hK K
          refine norm_ (a' := ?_) ?_ ?_
          rotate_left
          · show Act.put _ (some 16) _ = _
            simp only [Act.put, List.setIfInBounds_toArray, List.set_cons_zero, List.set_cons_succ, i64_w, i32_w]
            rfl
          refine one_ (i := 4) (N := some 21) #[true, true, true, true, true, true, true, true, false, false, true, false] rfl rfl (one_of HT_.out z62_19) (by decide) (fun K hK => ?_)
          refine goes_ Try.func29 z62_19 rfl #[.agg #[.int .i64 a0_0, .slice A0_1 l0_1.length c0_1, .slice A0_2 l0_2.length c0_2, .slice A0_3 l0_3.length c0_3], .slice A3 l3.length c3] (by rfl) rfl rfl z62_5 ?_
          with_reducible refine (impl_AppraiseLog.calls k a0_0 _ _ l0_1 _ _ l0_2 _ _ l0_3 _ _ l3 t219 _ ?side1 ?side2 ?side3 ?side4 ?side5 ?side6 ?side7 ?side8 A8.out).mono ?_
          (case side1 => repeat (first | exact (Kd.C_below HR0_1.out HB.out) | (with_reducible refine Kd.C_alloc ?_ _) | (with_reducible refine Kd.C_drewN ?_ _) | (with_reducible refine Kd.C_drew ?_)))
          (case side2 => exact HC0_1.out)
          (case side3 => repeat (first | exact (Kd.C_below HR0_2.out HB.out) | (with_reducible refine Kd.C_alloc ?_ _) | (with_reducible refine Kd.C_drewN ?_ _) | (with_reducible refine Kd.C_drew ?_)))
          (case side4 => exact HC0_2.out)
          (case side5 => repeat (first | exact (Kd.C_below HR0_3.out HB.out) | (with_reducible refine Kd.C_alloc ?_ _) | (with_reducible refine Kd.C_drewN ?_ _) | (with_reducible refine Kd.C_drew ?_)))
          (case side6 => exact HC0_3.out)
          (case side7 => repeat (first | exact (Kd.C_below HR3.out HB.out) | (with_reducible refine Kd.C_alloc ?_ _) | (with_reducible refine Kd.C_drewN ?_ _) | (with_reducible refine Kd.C_drew ?_)))
          (case side8 => exact HC3.out)
          rintro e w45 ⟨rfl, hb⟩
          refine ⟨_, rfl, ?_⟩
          have n0_ := Aside0.mk (blk_below (g := gb216) (o := .cells #[.int .i64 a0_0, .slice A0_1 l0_1.length c0_1, .slice A0_2 l0_2.length c0_2, .slice A0_3 l0_3.length c0_3] 33 (0, 0)) (pB62_ BK216.out) hb)
          have n1_ := Aside0.mk (blk_below (g := gb217) (o := .cells #[.int .i64 a2_0, .int .i64 a2_1, .int .i64 a2_2, .int .i64 a2_3, .int .i64 a2_4] 45 (0, 0)) (pB62_ BK217.out) hb)
          have n2_ := Aside0.mk (blk_below (g := gb218) (o := .cells #[.int .i64 0, .int .i64 0, .int .i64 0, .int .i64 0, .int .i64 0, .int .i64 0] 83 (0, 0)) (pB62_ BK218.out) hb)
          have n3_ := Aside0.mk (blk_below (g := gb221) (o := .cells #[.int .i64 0, .int .i64 0, .int .i64 0, .int .i64 0, .int .i64 0, .int .i64 0] 83 (0, 0)) (pB62_ BK221.out) hb)
          have n4_ := Aside0.mk (below_step z62_1 hb)
          clear BK216
          clear BK217
          clear BK218
          clear BK221
          clear HB
          have BK216 := n0_
          have BK217 := n1_
          have BK218 := n2_
          have BK221 := n3_
          have HB := n4_
          clear n0_ n1_ n2_ n3_ n4_
          (try clear hb)
          (try clear hb2)
          (try clear hk)
          (try clear hi)
          refine hK.out _ _ ⟨(blk_cell BK217.out 0).trans rfl, (blk_cell BK217.out 1).trans rfl, (blk_cell BK217.out 2).trans rfl, (blk_cell BK217.out 3).trans rfl, (blk_cell BK217.out 4).trans rfl, (blk_cell BK216.out 0).trans rfl, (blk_cell BK216.out 1).trans rfl, (blk_cell BK216.out 2).trans rfl, (blk_cell BK216.out 3).trans rfl⟩ (fun hHeld => ?_)
          clear hK K
          refine norm_ (a' := ?_) ?_ ?_
          rotate_left
          · show Act.put _ (some 21) _ = _
            simp only [Act.put, List.setIfInBounds_toArray, List.set_cons_zero, List.set_cons_succ, i64_w, i32_w]
            rfl
          refine one_ (i := 8) (N := some 25) #[true, true, true, true, true, true, true, true, true, false, true, false] rfl rfl (one_of HT_.out z62_19) (by decide) (fun K hK => ?_)
          refine goes_ Try.func108 z62_19 rfl #[.int .i64 a5, .int .i64 a6] (by rfl) rfl rfl z62_5 ?_
          with_reducible refine (impl_EndOf.calls a5 a6 t220 _ A9.out).mono ?_
          rintro e w46 ⟨rfl, hb⟩
          refine ⟨_, rfl, ?_⟩
          have n0_ := Aside0.mk (blk_below (g := gb216) (o := .cells #[.int .i64 a0_0, .slice A0_1 l0_1.length c0_1, .slice A0_2 l0_2.length c0_2, .slice A0_3 l0_3.length c0_3] 33 (0, 0)) (pB62_ BK216.out) hb)
          have n1_ := Aside0.mk (blk_below (g := gb217) (o := .cells #[.int .i64 a2_0, .int .i64 a2_1, .int .i64 a2_2, .int .i64 a2_3, .int .i64 a2_4] 45 (0, 0)) (pB62_ BK217.out) hb)
          have n2_ := Aside0.mk (blk_below (g := gb218) (o := .cells #[.int .i64 0, .int .i64 0, .int .i64 0, .int .i64 0, .int .i64 0, .int .i64 0] 83 (0, 0)) (pB62_ BK218.out) hb)
          have n3_ := Aside0.mk (blk_below (g := gb221) (o := .cells #[.int .i64 0, .int .i64 0, .int .i64 0, .int .i64 0, .int .i64 0, .int .i64 0] 83 (0, 0)) (pB62_ BK221.out) hb)
          have n4_ := Aside0.mk (below_step z62_1 hb)
          clear BK216
          clear BK217
          clear BK218
          clear BK221
          clear HB
          have BK216 := n0_
          have BK217 := n1_
          have BK218 := n2_
          have BK221 := n3_
          have HB := n4_
          clear n0_ n1_ n2_ n3_ n4_
          (try clear hb)
          (try clear hb2)
          (try clear hk)
          (try clear hi)
          refine hK.out _ _ ⟨(blk_cell BK217.out 0).trans rfl, (blk_cell BK217.out 1).trans rfl, (blk_cell BK217.out 2).trans rfl, (blk_cell BK217.out 3).trans rfl, (blk_cell BK217.out 4).trans rfl, (blk_cell BK216.out 0).trans rfl, (blk_cell BK216.out 1).trans rfl, (blk_cell BK216.out 2).trans rfl, (blk_cell BK216.out 3).trans rfl⟩ (fun hHeld => ?_)
          clear hK K
          refine norm_ (a' := ?_) ?_ ?_
          rotate_left
          · show Act.put _ (some 25) _ = _
            simp only [Act.put, List.setIfInBounds_toArray, List.set_cons_zero, List.set_cons_succ, i64_w, i32_w]
            rfl
          refine pure_ (i := 9) (N := some 26) (v := ?_) (a' := ?_) #[true, true, true, true, true, true, true, true, true, true, true, false] rfl rfl (any_of HT_.out z62_19) (fun _ _ _ h => h) (Or.inl ⟨by rfl, ?_⟩) ?_ ?_
          rotate_left
          · intro w'
            go_simp
            with_reducible rfl
          rotate_left
          · simp only [Act.put, List.setIfInBounds_toArray, List.set_cons_zero, List.set_cons_succ, i64_w, i32_w]
            rfl
          exact norm_ z62_17 (hCont (gb221) _ ⟨hHeld, (pB62_ BK216.out), (pB62_ BK217.out), (pB62_ BK218.out), (pB62_ BK221.out), GW221.out, GE221.out, NB216_221.out, NB221_216.out, NB217_221.out, NB221_217.out, NB218_221.out, NB221_218.out, z62_1⟩)
      rintro gb221 w47 ⟨hS_, h0_, h1_, h2_, h3_, h4_, h5_, h6_, h7_, h8_, h9_, h10_, h11_, h12_⟩
      have n0_ : Aside0 (w47.heap[gb216]? = some (.cells #[.int .i64 a0_0, .slice A0_1 l0_1.length c0_1, .slice A0_2 l0_2.length c0_2, .slice A0_3 l0_3.length c0_3] 33 (0, 0))) := ⟨h0_⟩
      have n1_ : Aside0 (w47.heap[gb217]? = some (.cells #[.int .i64 a2_0, .int .i64 a2_1, .int .i64 a2_2, .int .i64 a2_3, .int .i64 a2_4] 45 (0, 0))) := ⟨h1_⟩
      have n2_ : Aside0 (w47.heap[gb218]? = some (.cells #[.int .i64 0, .int .i64 0, .int .i64 0, .int .i64 0, .int .i64 0, .int .i64 0] 83 (0, 0))) := ⟨h2_⟩
      have n3_ : Aside0 (w47.heap[gb221]? = some (.cells #[.int .i64 0, .int .i64 0, .int .i64 0, .int .i64 0, .int .i64 0, .int .i64 0] 83 (0, 0))) := ⟨h3_⟩
      have n4_ : Aside0 (w.heap.size ≤ gb221) := ⟨h4_⟩
      have n5_ : Aside0 (w.heap.size ≤ gb221) := ⟨h5_⟩
      have n6_ : Aside0 (gb216 ≠ gb221) := ⟨h6_⟩
      have n7_ : Aside0 (gb221 ≠ gb216) := ⟨h7_⟩
      have n8_ : Aside0 (gb217 ≠ gb221) := ⟨h8_⟩
      have n9_ : Aside0 (gb221 ≠ gb217) := ⟨h9_⟩
      have n10_ : Aside0 (gb218 ≠ gb221) := ⟨h10_⟩
      have n11_ : Aside0 (gb221 ≠ gb218) := ⟨h11_⟩
      have n12_ : Aside0 (Below w.heap.size w w47) := ⟨h12_⟩
      clear BK216
      clear BK217
      clear BK218
      clear HB
      clear h0_ h1_ h2_ h3_ h4_ h5_ h6_ h7_ h8_ h9_ h10_ h11_ h12_
      have BK216 := n0_
      have BK217 := n1_
      have BK218 := n2_
      have BK221 := n3_
      have GW221 := n4_
      have GE221 := n5_
      have NB216_221 := n6_
      have NB221_216 := n7_
      have NB217_221 := n8_
      have NB221_217 := n9_
      have NB218_221 := n10_
      have NB221_218 := n11_
      have HB := n12_
      clear n0_ n1_ n2_ n3_ n4_ n5_ n6_ n7_ n8_ n9_ n10_ n11_ n12_
      have hHeld : w47.cell? ⟨gb217, 0, none⟩ = some (.int .i64 a2_0) ∧ w47.cell? ⟨gb217, 1, none⟩ = some (.int .i64 a2_1) ∧ w47.cell? ⟨gb217, 2, none⟩ = some (.int .i64 a2_2) ∧ w47.cell? ⟨gb217, 3, none⟩ = some (.int .i64 a2_3) ∧ w47.cell? ⟨gb217, 4, none⟩ = some (.int .i64 a2_4) ∧ w47.cell? ⟨gb216, 0, none⟩ = some (.int .i64 a0_0) ∧ w47.cell? ⟨gb216, 1, none⟩ = some (.slice A0_1 l0_1.length c0_1) ∧ w47.cell? ⟨gb216, 2, none⟩ = some (.slice A0_2 l0_2.length c0_2) ∧ w47.cell? ⟨gb216, 3, none⟩ = some (.slice A0_3 l0_3.length c0_3) := hS_
      refine norm_ (a' := ?_) ?_ ?_
      rotate_left
      · simp only [putAll, Act.put, List.setIfInBounds_toArray, List.set_cons_zero, List.set_cons_succ]
        rfl
      refine one_ (i := 11) (N := none) #[true, true, true, true, true, true, true, true, true, true, true, true] rfl rfl (one_of HT_.out z62_19) (by decide) (fun K hK => ?_)
      have hs48 : w47.cell? ⟨gb221, 0, none⟩ = some (.int .i64 0) := (blk_cell BK221.out 0).trans rfl
      have hfs48 := blk_frozen BK221.out 0
      have hns48_0 := NB216_221.out
      have hns48_1 := NB217_221.out
      have hns48_2 := NB218_221.out
      have hms48_0 := NB221_216.out
      have hms48_1 := NB221_217.out
      have hms48_2 := NB221_218.out
      have hs49 : w47.cell? ⟨gb221, 1, none⟩ = some (.int .i64 0) := (blk_cell BK221.out 1).trans rfl
      have hfs49 := blk_frozen BK221.out 1
      have hns49_0 := NB216_221.out
      have hns49_1 := NB217_221.out
      have hns49_2 := NB218_221.out
      have hms49_0 := NB221_216.out
      have hms49_1 := NB221_217.out
      have hms49_2 := NB221_218.out
      have hs50 : w47.cell? ⟨gb221, 2, none⟩ = some (.int .i64 0) := (blk_cell BK221.out 2).trans rfl
      have hfs50 := blk_frozen BK221.out 2
      have hns50_0 := NB216_221.out
      have hns50_1 := NB217_221.out
      have hns50_2 := NB218_221.out
      have hms50_0 := NB221_216.out
      have hms50_1 := NB221_217.out
      have hms50_2 := NB221_218.out
      have hs51 : w47.cell? ⟨gb221, 3, none⟩ = some (.int .i64 0) := (blk_cell BK221.out 3).trans rfl
      have hfs51 := blk_frozen BK221.out 3
      have hns51_0 := NB216_221.out
      have hns51_1 := NB217_221.out
      have hns51_2 := NB218_221.out
      have hms51_0 := NB221_216.out
      have hms51_1 := NB221_217.out
      have hms51_2 := NB221_218.out
      have hs52 : w47.cell? ⟨gb221, 4, none⟩ = some (.int .i64 0) := (blk_cell BK221.out 4).trans rfl
      have hfs52 := blk_frozen BK221.out 4
      have hns52_0 := NB216_221.out
      have hns52_1 := NB217_221.out
      have hns52_2 := NB218_221.out
      have hms52_0 := NB221_216.out
      have hms52_1 := NB221_217.out
      have hms52_2 := NB221_218.out
      have hs53 : w47.cell? ⟨gb221, 5, none⟩ = some (.int .i64 0) := (blk_cell BK221.out 5).trans rfl
      have hfs53 := blk_frozen BK221.out 5
      have hns53_0 := NB216_221.out
      have hns53_1 := NB217_221.out
      have hns53_2 := NB218_221.out
      have hms53_0 := NB221_216.out
      have hms53_1 := NB221_217.out
      have hms53_2 := NB221_218.out
      refine skip_ (w1 := ?_) (by rfl) rfl ?_ ?_
      rotate_left
      · go_simp
        rfl
      refine hK.out _ _ ⟨((cell_far (p := ⟨gb221, _, none⟩) NB217_221.out _).trans (((cell_far (p := ⟨gb221, _, none⟩) NB217_221.out _).trans (((cell_far (p := ⟨gb221, _, none⟩) NB217_221.out _).trans (((cell_far (p := ⟨gb221, _, none⟩) NB217_221.out _).trans (((cell_far (p := ⟨gb221, _, none⟩) NB217_221.out _).trans (((cell_far (p := ⟨gb221, _, none⟩) NB217_221.out _).trans (hHeld.1)))))))))))), ((cell_far (p := ⟨gb221, _, none⟩) NB217_221.out _).trans (((cell_far (p := ⟨gb221, _, none⟩) NB217_221.out _).trans (((cell_far (p := ⟨gb221, _, none⟩) NB217_221.out _).trans (((cell_far (p := ⟨gb221, _, none⟩) NB217_221.out _).trans (((cell_far (p := ⟨gb221, _, none⟩) NB217_221.out _).trans (((cell_far (p := ⟨gb221, _, none⟩) NB217_221.out _).trans (hHeld.2.1)))))))))))), ((cell_far (p := ⟨gb221, _, none⟩) NB217_221.out _).trans (((cell_far (p := ⟨gb221, _, none⟩) NB217_221.out _).trans (((cell_far (p := ⟨gb221, _, none⟩) NB217_221.out _).trans (((cell_far (p := ⟨gb221, _, none⟩) NB217_221.out _).trans (((cell_far (p := ⟨gb221, _, none⟩) NB217_221.out _).trans (((cell_far (p := ⟨gb221, _, none⟩) NB217_221.out _).trans (hHeld.2.2.1)))))))))))), ((cell_far (p := ⟨gb221, _, none⟩) NB217_221.out _).trans (((cell_far (p := ⟨gb221, _, none⟩) NB217_221.out _).trans (((cell_far (p := ⟨gb221, _, none⟩) NB217_221.out _).trans (((cell_far (p := ⟨gb221, _, none⟩) NB217_221.out _).trans (((cell_far (p := ⟨gb221, _, none⟩) NB217_221.out _).trans (((cell_far (p := ⟨gb221, _, none⟩) NB217_221.out _).trans (hHeld.2.2.2.1)))))))))))), ((cell_far (p := ⟨gb221, _, none⟩) NB217_221.out _).trans (((cell_far (p := ⟨gb221, _, none⟩) NB217_221.out _).trans (((cell_far (p := ⟨gb221, _, none⟩) NB217_221.out _).trans (((cell_far (p := ⟨gb221, _, none⟩) NB217_221.out _).trans (((cell_far (p := ⟨gb221, _, none⟩) NB217_221.out _).trans (((cell_far (p := ⟨gb221, _, none⟩) NB217_221.out _).trans (hHeld.2.2.2.2.1)))))))))))), ((cell_far (p := ⟨gb221, _, none⟩) NB216_221.out _).trans (((cell_far (p := ⟨gb221, _, none⟩) NB216_221.out _).trans (((cell_far (p := ⟨gb221, _, none⟩) NB216_221.out _).trans (((cell_far (p := ⟨gb221, _, none⟩) NB216_221.out _).trans (((cell_far (p := ⟨gb221, _, none⟩) NB216_221.out _).trans (((cell_far (p := ⟨gb221, _, none⟩) NB216_221.out _).trans (hHeld.2.2.2.2.2.1)))))))))))), ((cell_far (p := ⟨gb221, _, none⟩) NB216_221.out _).trans (((cell_far (p := ⟨gb221, _, none⟩) NB216_221.out _).trans (((cell_far (p := ⟨gb221, _, none⟩) NB216_221.out _).trans (((cell_far (p := ⟨gb221, _, none⟩) NB216_221.out _).trans (((cell_far (p := ⟨gb221, _, none⟩) NB216_221.out _).trans (((cell_far (p := ⟨gb221, _, none⟩) NB216_221.out _).trans (hHeld.2.2.2.2.2.2.1)))))))))))), ((cell_far (p := ⟨gb221, _, none⟩) NB216_221.out _).trans (((cell_far (p := ⟨gb221, _, none⟩) NB216_221.out _).trans (((cell_far (p := ⟨gb221, _, none⟩) NB216_221.out _).trans (((cell_far (p := ⟨gb221, _, none⟩) NB216_221.out _).trans (((cell_far (p := ⟨gb221, _, none⟩) NB216_221.out _).trans (((cell_far (p := ⟨gb221, _, none⟩) NB216_221.out _).trans (hHeld.2.2.2.2.2.2.2.1)))))))))))), ((cell_far (p := ⟨gb221, _, none⟩) NB216_221.out _).trans (((cell_far (p := ⟨gb221, _, none⟩) NB216_221.out _).trans (((cell_far (p := ⟨gb221, _, none⟩) NB216_221.out _).trans (((cell_far (p := ⟨gb221, _, none⟩) NB216_221.out _).trans (((cell_far (p := ⟨gb221, _, none⟩) NB216_221.out _).trans (((cell_far (p := ⟨gb221, _, none⟩) NB216_221.out _).trans (hHeld.2.2.2.2.2.2.2.2))))))))))))⟩ (fun hHeld => ?_)
      clear hK K
      refine done_ (done_of HT_.out z62_19) ?_
      have hnb54 := NB217_216.out
      have hnc54 := NB216_217.out
      have hnb55 := NB217_218.out
      have hnc55 := NB218_217.out
      have hnb56 := NB217_221.out
      have hnc56 := NB221_217.out
      have hcz57_0 : w47.cell? ⟨gb217, 0, none⟩ = some (.int .i64 a2_0) := (blk_cell BK217.out 0).trans rfl
      have hcz57_1 : w47.cell? ⟨gb217, 1, none⟩ = some (.int .i64 a2_1) := (blk_cell BK217.out 1).trans rfl
      have hcz57_2 : w47.cell? ⟨gb217, 2, none⟩ = some (.int .i64 a2_2) := (blk_cell BK217.out 2).trans rfl
      have hcz57_3 : w47.cell? ⟨gb217, 3, none⟩ = some (.int .i64 a2_3) := (blk_cell BK217.out 3).trans rfl
      have hcz57_4 : w47.cell? ⟨gb217, 4, none⟩ = some (.int .i64 a2_4) := (blk_cell BK217.out 4).trans rfl
      have hfz57_0 := blk_frozen BK217.out 0
      have hfz57_1 := blk_frozen BK217.out 1
      have hfz57_2 := blk_frozen BK217.out 2
      have hfz57_3 := blk_frozen BK217.out 3
      have hfz57_4 := blk_frozen BK217.out 4
      try go_wp2_with (first | ((with_reducible refine gate_callee (f := 38) rfl ?_); refine goesL_ (some 32) rfl rfl Try.func38 z62_19 rfl #[.int .i64 a1, .agg #[.int .i64 a2_0, .int .i64 a2_1, .int .i64 a2_2, .int .i64 a2_3, .int .i64 a2_4], .slice A3 l3.length c3, .int .i64 a4, .int .i64 a5, .int .i64 5] rfl z62_5 ?_; (with_reducible refine (impl_CheckQuote.calls k a1 a2_0 a2_1 a2_2 a2_3 a2_4 _ _ l3 a4 a5 5 true _ ?side1 ?side2 A10.out).mono ?_); (case side1 => exact Kd.C_below HR3.out z62_1); (case side2 => exact HC3.out); rintro e w58 ⟨rfl, hb⟩; refine ⟨_, rfl, ?_⟩; have n0_ := Aside0.mk (blk_below (g := gb216) (o := .cells #[.int .i64 a0_0, .slice A0_1 l0_1.length c0_1, .slice A0_2 l0_2.length c0_2, .slice A0_3 l0_3.length c0_3] 33 (0, 0)) z62_10 hb); have n1_ := Aside0.mk (blk_below (g := gb217) (o := .cells #[.int .i64 a2_0, .int .i64 a2_1, .int .i64 a2_2, .int .i64 a2_3, .int .i64 a2_4] 45 (0, 0)) z62_9 hb); have n2_ := Aside0.mk (blk_below (g := gb218) (o := .cells #[.int .i64 0, .int .i64 0, .int .i64 0, .int .i64 0, .int .i64 0, .int .i64 0] 83 (0, 0)) z62_8 hb); have n3_ := Aside0.mk (blk_below (g := gb221) (o := .cells #[.int .i64 3, .int .i64 a2_0, .int .i64 t219, .int .i64 1, .int .i64 a5, .int .i64 t220] 83 (0, 0)) z62_2 hb); have n4_ := Aside0.mk (below_step z62_1 hb); clear BK216; clear BK217; clear BK218; clear BK221; clear HB; have BK216 := n0_; have BK217 := n1_; have BK218 := n2_; have BK221 := n3_; have HB := n4_; clear n0_ n1_ n2_ n3_ n4_; (try clear hb); (try clear hb2); (try clear hk); (try clear hi); have hnb59 := NB221_216.out; have hnc59 := NB216_221.out; have hnb60 := NB221_218.out; have hnc60 := NB218_221.out; have hcz61_0 : w58.cell? ⟨gb221, 0, none⟩ = some (.int .i64 3) := (blk_cell BK221.out 0).trans rfl; have hcz61_1 : w58.cell? ⟨gb221, 1, none⟩ = some (.int .i64 a2_0) := (blk_cell BK221.out 1).trans rfl; have hcz61_2 : w58.cell? ⟨gb221, 2, none⟩ = some (.int .i64 t219) := (blk_cell BK221.out 2).trans rfl; have hcz61_3 : w58.cell? ⟨gb221, 3, none⟩ = some (.int .i64 1) := (blk_cell BK221.out 3).trans rfl; have hcz61_4 : w58.cell? ⟨gb221, 4, none⟩ = some (.int .i64 a5) := (blk_cell BK221.out 4).trans rfl; have hcz61_5 : w58.cell? ⟨gb221, 5, none⟩ = some (.int .i64 t220) := (blk_cell BK221.out 5).trans rfl; have hfz61_0 := blk_frozen BK221.out 0; have hfz61_1 := blk_frozen BK221.out 1; have hfz61_2 := blk_frozen BK221.out 2; have hfz61_3 := blk_frozen BK221.out 3; have hfz61_4 := blk_frozen BK221.out 4; have hfz61_5 := blk_frozen BK221.out 5) | (go_at_call 120; (with_reducible refine (impl_IsFact.calls 3 a2_0 t219 1 a5 t220 false _ A12.out).mono ?_); rintro e w62 ⟨rfl, hb⟩; have n0_ := Aside0.mk (blk_below (g := gb216) (o := .cells #[.int .i64 a0_0, .slice A0_1 l0_1.length c0_1, .slice A0_2 l0_2.length c0_2, .slice A0_3 l0_3.length c0_3] 33 (0, 0)) (pB62_ BK216.out) hb); have n1_ := Aside0.mk (blk_below (g := gb217) (o := .cells #[.int .i64 a2_0, .int .i64 a2_1, .int .i64 a2_2, .int .i64 a2_3, .int .i64 a2_4] 45 (0, 0)) (pB62_ BK217.out) hb); have n2_ := Aside0.mk (blk_below (g := gb218) (o := .cells #[.int .i64 0, .int .i64 0, .int .i64 0, .int .i64 0, .int .i64 0, .int .i64 0] 83 (0, 0)) (pB62_ BK218.out) hb); have n3_ := Aside0.mk (blk_below (g := gb221) (o := .cells #[.int .i64 3, .int .i64 a2_0, .int .i64 t219, .int .i64 1, .int .i64 a5, .int .i64 t220] 83 (0, 0)) (pB62_ BK221.out) hb); have n4_ := Aside0.mk (below_step z62_1 hb); clear BK216; clear BK217; clear BK218; clear BK221; clear HB; have BK216 := n0_; have BK217 := n1_; have BK218 := n2_; have BK221 := n3_; have HB := n4_; clear n0_ n1_ n2_ n3_ n4_; (try clear hb); (try clear hb2); (try clear hk); (try clear hi); have hnb63 := NB218_216.out; have hnc63 := NB216_218.out; have hcz64_0 : w62.cell? ⟨gb218, 0, none⟩ = some (.int .i64 0) := (blk_cell BK218.out 0).trans rfl; have hcz64_1 : w62.cell? ⟨gb218, 1, none⟩ = some (.int .i64 0) := (blk_cell BK218.out 1).trans rfl; have hcz64_2 : w62.cell? ⟨gb218, 2, none⟩ = some (.int .i64 0) := (blk_cell BK218.out 2).trans rfl; have hcz64_3 : w62.cell? ⟨gb218, 3, none⟩ = some (.int .i64 0) := (blk_cell BK218.out 3).trans rfl; have hcz64_4 : w62.cell? ⟨gb218, 4, none⟩ = some (.int .i64 0) := (blk_cell BK218.out 4).trans rfl; have hcz64_5 : w62.cell? ⟨gb218, 5, none⟩ = some (.int .i64 0) := (blk_cell BK218.out 5).trans rfl; have hfz64_0 := blk_frozen BK218.out 0; have hfz64_1 := blk_frozen BK218.out 1; have hfz64_2 := blk_frozen BK218.out 2; have hfz64_3 := blk_frozen BK218.out 3; have hfz64_4 := blk_frozen BK218.out 4; have hfz64_5 := blk_frozen BK218.out 5))
      refine bodyPost_ret (results_ct rfl _ _ gb218 83 #[.int .i64 0, .int .i64 0, .int .i64 0, .int .i64 0, .int .i64 0, .int .i64 0] (0, 0) _ rfl z62_12 Try.underlying83 rfl z62_19) rfl ?_
      exact ⟨by first | rfl | (simp [errW_none, errW_some] <;> rfl) | (simp [*, errW_none, errW_some] <;> rfl), by repeat (first | (with_reducible first | exact HB.out | apply below_alloc | apply pw_below_drewN | apply below_drew1 | refine below_set ?_ GE216.out | refine below_set ?_ GE217.out | refine below_set ?_ GE218.out | refine below_set ?_ GE221.out) | exact HB.out)⟩
  · replace c11 := Bool.eq_false_iff.mpr c11
    subst c11
    have H1 : (some (0, 0, 0, 0, 0, 0, false)) = some (r1, r2, r3, r4, r5, r6, r7) := by rw [if_neg (show ¬ (false = true) by decide)] at H; exact H
    clear H
    have H := H1
    clear H1
    simp only [Option.some.injEq, Prod.mk.injEq] at H
    obtain ⟨rfl, rfl, rfl, rfl, rfl, rfl, rfl⟩ := H
    go_enter Try.func62, Try.ntmps62
    try go_wp2_with (first | ((with_reducible refine gate_dst (N := 7) rfl ?_); refine box_event ?hg (N := 7) ?hd (cs := #[.int .i64 a0_0, .slice A0_1 l0_1.length c0_1, .slice A0_2 l0_2.length c0_2, .slice A0_3 l0_3.length c0_3]) (t := 33) ?hr ?_; (case hd => rfl); (case hg => rfl); (case hr => first | (go_simp; done) | (go_simp; rfl)); intro gb216 hg w65 hbox hb; have n0_ := Aside0.mk (below_step z62_16 hb); have n1_ := Aside0.mk (hbox); have n2_ := Aside0.mk ((by rw [hg]; exact (below_size z62_16) : w.heap.size ≤ gb216)); have n3_ := Aside0.mk ((by rw [hg]; exact (below_size z62_16) : w.heap.size ≤ gb216)); clear HB; have HB := n0_; have BK216 := n1_; have GW216 := n2_; have GE216 := n3_; clear n0_ n1_ n2_ n3_; clear hb hbox hg) | ((with_reducible refine gate_dst (N := 9) rfl ?_); refine box_event ?hg (N := 9) ?hd (cs := #[.int .i64 a2_0, .int .i64 a2_1, .int .i64 a2_2, .int .i64 a2_3, .int .i64 a2_4]) (t := 45) ?hr ?_; (case hd => rfl); (case hg => rfl); (case hr => first | (go_simp; done) | (go_simp; rfl)); intro gb217 hg w66 hbox hb; have n0_ := Aside0.mk (blk_below (g := gb216) (o := .cells #[.int .i64 a0_0, .slice A0_1 l0_1.length c0_1, .slice A0_2 l0_2.length c0_2, .slice A0_3 l0_3.length c0_3] 33 (0, 0)) (pB62_ BK216.out) hb); have n1_ := Aside0.mk (below_step z62_15 hb); have n2_ := Aside0.mk (hbox); have n3_ := Aside0.mk ((by rw [hg]; exact (below_size z62_15) : w.heap.size ≤ gb217)); have n4_ := Aside0.mk ((by rw [hg]; exact (below_size z62_15) : w.heap.size ≤ gb217)); have n5_ := Aside0.mk ((z62_3 : gb216 ≠ gb217)); have n6_ := Aside0.mk ((z62_4 : gb217 ≠ gb216)); clear BK216; clear HB; have BK216 := n0_; have HB := n1_; have BK217 := n2_; have GW217 := n3_; have GE217 := n4_; have NB216_217 := n5_; have NB217_216 := n6_; clear n0_ n1_ n2_ n3_ n4_ n5_ n6_; clear hb hbox hg) | ((with_reducible refine gate_dst (N := 14) rfl ?_); refine box_event ?hg (N := 14) ?hd (cs := #[.int .i64 0, .int .i64 0, .int .i64 0, .int .i64 0, .int .i64 0, .int .i64 0]) (t := 83) ?hr ?_; (case hd => rfl); (case hg => rfl); (case hr => first | (go_simp; done) | (go_simp; rfl)); intro gb218 hg w67 hbox hb; have n0_ := Aside0.mk (blk_below (g := gb216) (o := .cells #[.int .i64 a0_0, .slice A0_1 l0_1.length c0_1, .slice A0_2 l0_2.length c0_2, .slice A0_3 l0_3.length c0_3] 33 (0, 0)) (pB62_ BK216.out) hb); have n1_ := Aside0.mk (blk_below (g := gb217) (o := .cells #[.int .i64 a2_0, .int .i64 a2_1, .int .i64 a2_2, .int .i64 a2_3, .int .i64 a2_4] 45 (0, 0)) (pB62_ BK217.out) hb); have n2_ := Aside0.mk (below_step z62_11 hb); have n3_ := Aside0.mk (hbox); have n4_ := Aside0.mk ((by rw [hg]; exact (below_size z62_11) : w.heap.size ≤ gb218)); have n5_ := Aside0.mk ((by rw [hg]; exact (below_size z62_11) : w.heap.size ≤ gb218)); have n6_ := Aside0.mk ((z62_3 : gb216 ≠ gb218)); have n7_ := Aside0.mk ((z62_4 : gb218 ≠ gb216)); have n8_ := Aside0.mk ((z62_6 : gb217 ≠ gb218)); have n9_ := Aside0.mk ((z62_7 : gb218 ≠ gb217)); clear BK216; clear BK217; clear HB; have BK216 := n0_; have BK217 := n1_; have HB := n2_; have BK218 := n3_; have GW218 := n4_; have GE218 := n5_; have NB216_218 := n6_; have NB218_216 := n7_; have NB217_218 := n8_; have NB218_217 := n9_; clear n0_ n1_ n2_ n3_ n4_ n5_ n6_ n7_ n8_ n9_; clear hb hbox hg))
    have n0_ := Aside0.mk (blk_drew BK216.out)
    have n1_ := Aside0.mk (blk_drew BK217.out)
    have n2_ := Aside0.mk (blk_drew BK218.out)
    have n3_ := Aside0.mk (below_drew1 HB.out)
    clear BK216
    clear BK217
    clear BK218
    clear HB
    have BK216 := n0_
    have BK217 := n1_
    have BK218 := n2_
    have HB := n3_
    clear n0_ n1_ n2_ n3_
    refine start_ (n := 12) (S := fun w' => w'.cell? ⟨gb217, 0, none⟩ = some (.int .i64 a2_0) ∧ w'.cell? ⟨gb217, 1, none⟩ = some (.int .i64 a2_1) ∧ w'.cell? ⟨gb217, 2, none⟩ = some (.int .i64 a2_2) ∧ w'.cell? ⟨gb217, 3, none⟩ = some (.int .i64 a2_3) ∧ w'.cell? ⟨gb217, 4, none⟩ = some (.int .i64 a2_4) ∧ w'.cell? ⟨gb216, 0, none⟩ = some (.int .i64 a0_0) ∧ w'.cell? ⟨gb216, 1, none⟩ = some (.slice A0_1 l0_1.length c0_1) ∧ w'.cell? ⟨gb216, 2, none⟩ = some (.slice A0_2 l0_2.length c0_2) ∧ w'.cell? ⟨gb216, 3, none⟩ = some (.slice A0_3 l0_3.length c0_3)) (ds := []) #[false, false, false, false, false, false, false, false, false, false, false, false] z62_19 rfl rfl ⟨(blk_cell BK217.out 0).trans rfl, (blk_cell BK217.out 1).trans rfl, (blk_cell BK217.out 2).trans rfl, (blk_cell BK217.out 3).trans rfl, (blk_cell BK217.out 4).trans rfl, (blk_cell BK216.out 0).trans rfl, (blk_cell BK216.out 1).trans rfl, (blk_cell BK216.out 2).trans rfl, (blk_cell BK216.out 3).trans rfl⟩ (fun hHeld => ?_); refine with_tabW impl_HealthFact.tab1 impl_HealthFact.bits1 (fun HT_ HW_ => ?_)
    generalize w67.drew = w68 at BK216 BK217 BK218 HB hHeld ⊢
    refine pure_ (i := 0) (N := some 17) (v := ?_) (a' := ?_) #[true, false, false, false, false, false, false, false, false, false, false, false] rfl rfl (any_of HT_.out z62_19) (fun _ _ _ h => h) (Or.inl ⟨by rfl, ?_⟩) ?_ ?_
    rotate_left
    · intro w'
      go_simp
      with_reducible rfl
    rotate_left
    · simp only [Act.put, List.setIfInBounds_toArray, List.set_cons_zero, List.set_cons_succ, i64_w, i32_w]
      rfl
    refine pure_ (i := 3) (N := some 20) (v := ?_) (a' := ?_) #[true, false, false, true, false, false, false, false, false, false, false, false] rfl rfl (any_of HT_.out z62_19) (fun _ _ _ h => h) (Or.inl ⟨by rfl, ?_⟩) ?_ ?_
    rotate_left
    · intro w'
      go_simp
      with_reducible rfl
    rotate_left
    · simp only [Act.put, List.setIfInBounds_toArray, List.set_cons_zero, List.set_cons_succ, i64_w, i32_w]
      rfl
    refine pure_ (i := 5) (N := some 22) (v := ?_) (a' := ?_) #[true, false, false, true, false, true, false, false, false, false, false, false] rfl rfl (any_of HT_.out z62_19) (fun _ _ _ h => h) (Or.inl ⟨by rfl, ?_⟩) ?_ ?_
    rotate_left
    · intro w'
      go_simp
      with_reducible rfl
    rotate_left
    · simp only [Act.put, List.setIfInBounds_toArray, List.set_cons_zero, List.set_cons_succ, i64_w, i32_w]
      rfl
    refine pure_ (i := 6) (N := some 23) (v := ?_) (a' := ?_) #[true, false, false, true, false, true, true, false, false, false, false, false] rfl rfl (any_of HT_.out z62_19) (fun _ _ _ h => h) (Or.inl ⟨by rfl, ?_⟩) ?_ ?_
    rotate_left
    · intro w'
      go_simp
      with_reducible rfl
    rotate_left
    · simp only [Act.put, List.setIfInBounds_toArray, List.set_cons_zero, List.set_cons_succ, i64_w, i32_w]
      rfl
    refine pure_ (i := 7) (N := some 24) (v := ?_) (a' := ?_) #[true, false, false, true, false, true, true, true, false, false, false, false] rfl rfl (any_of HT_.out z62_19) (fun _ _ _ h => h) (Or.inl ⟨by rfl, ?_⟩) ?_ ?_
    rotate_left
    · intro w'
      go_simp
      with_reducible rfl
    rotate_left
    · simp only [Act.put, List.setIfInBounds_toArray, List.set_cons_zero, List.set_cons_succ, i64_w, i32_w]
      rfl
    refine take_ (i := 1) (N := some 18) (v := ?_) (a' := ?_) #[true, true, false, true, false, true, true, true, false, false, false, false] rfl rfl (take_ofW HT_.out HW_.out z62_19) (fun _ _ _ h => h) (Or.inl ⟨by rfl, ?_⟩) hHeld ?_ ?_
    rotate_left
    · rintro w' ⟨s0, s1, s2, s3, s4, s5, s6, s7, s8⟩
      go_simp
      with_reducible rfl
    rotate_left
    · simp only [Act.put, List.setIfInBounds_toArray, List.set_cons_zero, List.set_cons_succ, i64_w, i32_w]
      rfl
    refine take_ (i := 2) (N := some 19) (v := ?_) (a' := ?_) #[true, true, true, true, false, true, true, true, false, false, false, false] rfl rfl (take_ofW HT_.out HW_.out z62_19) (fun _ _ _ h => h) (Or.inl ⟨by rfl, ?_⟩) hHeld ?_ ?_
    rotate_left
    · rintro w' ⟨s0, s1, s2, s3, s4, s5, s6, s7, s8⟩
      go_simp
      with_reducible rfl
    rotate_left
    · simp only [Act.put, List.setIfInBounds_toArray, List.set_cons_zero, List.set_cons_succ, i64_w, i32_w]
      rfl
    refine join_ (σ := Nat) 1 #[true, true, true, true, true, true, true, true, true, true, true, false] (fun s_ => [(21, .int .i64 t219), (25, .int .i64 t220), (16, .pointer (some ⟨s_, 0, none⟩)), (26, .agg #[.int .i64 3, .int .i64 a2_0, .int .i64 t219, .int .i64 1, .int .i64 a5, .int .i64 t220])]) (fun s_ w' => (w'.cell? ⟨gb217, 0, none⟩ = some (.int .i64 a2_0) ∧ w'.cell? ⟨gb217, 1, none⟩ = some (.int .i64 a2_1) ∧ w'.cell? ⟨gb217, 2, none⟩ = some (.int .i64 a2_2) ∧ w'.cell? ⟨gb217, 3, none⟩ = some (.int .i64 a2_3) ∧ w'.cell? ⟨gb217, 4, none⟩ = some (.int .i64 a2_4) ∧ w'.cell? ⟨gb216, 0, none⟩ = some (.int .i64 a0_0) ∧ w'.cell? ⟨gb216, 1, none⟩ = some (.slice A0_1 l0_1.length c0_1) ∧ w'.cell? ⟨gb216, 2, none⟩ = some (.slice A0_2 l0_2.length c0_2) ∧ w'.cell? ⟨gb216, 3, none⟩ = some (.slice A0_3 l0_3.length c0_3)) ∧ (w'.heap[gb216]? = some (.cells #[.int .i64 a0_0, .slice A0_1 l0_1.length c0_1, .slice A0_2 l0_2.length c0_2, .slice A0_3 l0_3.length c0_3] 33 (0, 0))) ∧ (w'.heap[gb217]? = some (.cells #[.int .i64 a2_0, .int .i64 a2_1, .int .i64 a2_2, .int .i64 a2_3, .int .i64 a2_4] 45 (0, 0))) ∧ (w'.heap[gb218]? = some (.cells #[.int .i64 0, .int .i64 0, .int .i64 0, .int .i64 0, .int .i64 0, .int .i64 0] 83 (0, 0))) ∧ (w'.heap[s_]? = some (.cells #[.int .i64 0, .int .i64 0, .int .i64 0, .int .i64 0, .int .i64 0, .int .i64 0] 83 (0, 0))) ∧ (w.heap.size ≤ s_) ∧ (w.heap.size ≤ s_) ∧ (gb216 ≠ s_) ∧ (s_ ≠ gb216) ∧ (gb217 ≠ s_) ∧ (s_ ≠ gb217) ∧ (gb218 ≠ s_) ∧ (s_ ≠ gb218) ∧ (Below w.heap.size w w')) ?_ ?_
    rotate_left
    · intro hCont
      refine two_ (i := 4) (j := 10) (Ni := some 21) (Nj := some 16) #[true, true, true, true, true, true, true, true, false, false, false, false] #[true, true, true, true, false, true, true, true, false, false, true, false] rfl rfl rfl rfl (two_of HT_.out z62_19) (by decide) (by decide) (fun K hK => ?_) (fun K hK => ?_)
      · skip
        refine goes_ Try.func29 z62_19 rfl #[.agg #[.int .i64 a0_0, .slice A0_1 l0_1.length c0_1, .slice A0_2 l0_2.length c0_2, .slice A0_3 l0_3.length c0_3], .slice A3 l3.length c3] (by rfl) rfl rfl z62_5 ?_
        with_reducible refine (impl_AppraiseLog.calls k a0_0 _ _ l0_1 _ _ l0_2 _ _ l0_3 _ _ l3 t219 _ ?side1 ?side2 ?side3 ?side4 ?side5 ?side6 ?side7 ?side8 A8.out).mono ?_
        (case side1 => repeat (first | exact (Kd.C_below HR0_1.out HB.out) | (with_reducible refine Kd.C_alloc ?_ _) | (with_reducible refine Kd.C_drewN ?_ _) | (with_reducible refine Kd.C_drew ?_)))
        (case side2 => exact HC0_1.out)
        (case side3 => repeat (first | exact (Kd.C_below HR0_2.out HB.out) | (with_reducible refine Kd.C_alloc ?_ _) | (with_reducible refine Kd.C_drewN ?_ _) | (with_reducible refine Kd.C_drew ?_)))
        (case side4 => exact HC0_2.out)
        (case side5 => repeat (first | exact (Kd.C_below HR0_3.out HB.out) | (with_reducible refine Kd.C_alloc ?_ _) | (with_reducible refine Kd.C_drewN ?_ _) | (with_reducible refine Kd.C_drew ?_)))
        (case side6 => exact HC0_3.out)
        (case side7 => repeat (first | exact (Kd.C_below HR3.out HB.out) | (with_reducible refine Kd.C_alloc ?_ _) | (with_reducible refine Kd.C_drewN ?_ _) | (with_reducible refine Kd.C_drew ?_)))
        (case side8 => exact HC3.out)
        rintro e w69 ⟨rfl, hb⟩
        refine ⟨_, rfl, ?_⟩
        have n0_ := Aside0.mk (blk_below (g := gb216) (o := .cells #[.int .i64 a0_0, .slice A0_1 l0_1.length c0_1, .slice A0_2 l0_2.length c0_2, .slice A0_3 l0_3.length c0_3] 33 (0, 0)) (pB62_ BK216.out) hb)
        have n1_ := Aside0.mk (blk_below (g := gb217) (o := .cells #[.int .i64 a2_0, .int .i64 a2_1, .int .i64 a2_2, .int .i64 a2_3, .int .i64 a2_4] 45 (0, 0)) (pB62_ BK217.out) hb)
        have n2_ := Aside0.mk (blk_below (g := gb218) (o := .cells #[.int .i64 0, .int .i64 0, .int .i64 0, .int .i64 0, .int .i64 0, .int .i64 0] 83 (0, 0)) (pB62_ BK218.out) hb)
        have n3_ := Aside0.mk (below_step z62_0 hb)
        clear BK216
        clear BK217
        clear BK218
        clear HB
        have BK216 := n0_
        have BK217 := n1_
        have BK218 := n2_
        have HB := n3_
        clear n0_ n1_ n2_ n3_
        (try clear hb)
        (try clear hb2)
        (try clear hk)
        (try clear hi)
        refine hK.out _ _ ⟨(blk_cell BK217.out 0).trans rfl, (blk_cell BK217.out 1).trans rfl, (blk_cell BK217.out 2).trans rfl, (blk_cell BK217.out 3).trans rfl, (blk_cell BK217.out 4).trans rfl, (blk_cell BK216.out 0).trans rfl, (blk_cell BK216.out 1).trans rfl, (blk_cell BK216.out 2).trans rfl, (blk_cell BK216.out 3).trans rfl⟩ (fun hHeld => ?_)
        clear hK K
        refine norm_ (a' := ?_) ?_ ?_
        rotate_left
        · show Act.put _ (some 21) _ = _
          simp only [Act.put, List.setIfInBounds_toArray, List.set_cons_zero, List.set_cons_succ, i64_w, i32_w]
          rfl
        refine two_ (i := 8) (j := 10) (Ni := some 25) (Nj := some 16) #[true, true, true, true, true, true, true, true, true, false, false, false] #[true, true, true, true, true, true, true, true, false, false, true, false] rfl rfl rfl rfl (two_of HT_.out z62_19) (by decide) (by decide) (fun K hK => ?_) (fun K hK => ?_)
        · skip
          refine goes_ Try.func108 z62_19 rfl #[.int .i64 a5, .int .i64 a6] (by rfl) rfl rfl z62_5 ?_
          with_reducible refine (impl_EndOf.calls a5 a6 t220 _ A9.out).mono ?_
          rintro e w70 ⟨rfl, hb⟩
          refine ⟨_, rfl, ?_⟩
          have n0_ := Aside0.mk (blk_below (g := gb216) (o := .cells #[.int .i64 a0_0, .slice A0_1 l0_1.length c0_1, .slice A0_2 l0_2.length c0_2, .slice A0_3 l0_3.length c0_3] 33 (0, 0)) (pB62_ BK216.out) hb)
          have n1_ := Aside0.mk (blk_below (g := gb217) (o := .cells #[.int .i64 a2_0, .int .i64 a2_1, .int .i64 a2_2, .int .i64 a2_3, .int .i64 a2_4] 45 (0, 0)) (pB62_ BK217.out) hb)
          have n2_ := Aside0.mk (blk_below (g := gb218) (o := .cells #[.int .i64 0, .int .i64 0, .int .i64 0, .int .i64 0, .int .i64 0, .int .i64 0] 83 (0, 0)) (pB62_ BK218.out) hb)
          have n3_ := Aside0.mk (below_step z62_0 hb)
          clear BK216
          clear BK217
          clear BK218
          clear HB
          have BK216 := n0_
          have BK217 := n1_
          have BK218 := n2_
          have HB := n3_
          clear n0_ n1_ n2_ n3_
          (try clear hb)
          (try clear hb2)
          (try clear hk)
          (try clear hi)
          refine hK.out _ _ ⟨(blk_cell BK217.out 0).trans rfl, (blk_cell BK217.out 1).trans rfl, (blk_cell BK217.out 2).trans rfl, (blk_cell BK217.out 3).trans rfl, (blk_cell BK217.out 4).trans rfl, (blk_cell BK216.out 0).trans rfl, (blk_cell BK216.out 1).trans rfl, (blk_cell BK216.out 2).trans rfl, (blk_cell BK216.out 3).trans rfl⟩ (fun hHeld => ?_)
          clear hK K
          refine norm_ (a' := ?_) ?_ ?_
          rotate_left
          · show Act.put _ (some 25) _ = _
            simp only [Act.put, List.setIfInBounds_toArray, List.set_cons_zero, List.set_cons_succ, i64_w, i32_w]
            rfl
          refine pure_ (i := 9) (N := some 26) (v := ?_) (a' := ?_) #[true, true, true, true, true, true, true, true, true, true, false, false] rfl rfl (any_of HT_.out z62_19) (fun _ _ _ h => h) (Or.inl ⟨by rfl, ?_⟩) ?_ ?_
          rotate_left
          · intro w'
            go_simp
            with_reducible rfl
          rotate_left
          · simp only [Act.put, List.setIfInBounds_toArray, List.set_cons_zero, List.set_cons_succ, i64_w, i32_w]
            rfl
          refine one_ (i := 10) (N := some 16) #[true, true, true, true, true, true, true, true, true, true, true, false] rfl rfl (one_of HT_.out z62_19) (by decide) (fun K hK => ?_)
          refine box_step ?hg (N := 16) ?hd (cs := #[.int .i64 0, .int .i64 0, .int .i64 0, .int .i64 0, .int .i64 0, .int .i64 0]) (t := 83) ?hr ?_; (case hd => rfl); (case hg => rfl); (case hr => first | (go_simp; done) | (go_simp; rfl))
          intro gb221 hg w71 hbox hb
          have n0_ := Aside0.mk (blk_below (g := gb216) (o := .cells #[.int .i64 a0_0, .slice A0_1 l0_1.length c0_1, .slice A0_2 l0_2.length c0_2, .slice A0_3 l0_3.length c0_3] 33 (0, 0)) (pB62_ BK216.out) hb)
          have n1_ := Aside0.mk (blk_below (g := gb217) (o := .cells #[.int .i64 a2_0, .int .i64 a2_1, .int .i64 a2_2, .int .i64 a2_3, .int .i64 a2_4] 45 (0, 0)) (pB62_ BK217.out) hb)
          have n2_ := Aside0.mk (blk_below (g := gb218) (o := .cells #[.int .i64 0, .int .i64 0, .int .i64 0, .int .i64 0, .int .i64 0, .int .i64 0] 83 (0, 0)) (pB62_ BK218.out) hb)
          have n3_ := Aside0.mk (below_step z62_0 hb)
          have n4_ := Aside0.mk (hbox)
          have n5_ := Aside0.mk ((z62_18 : w.heap.size ≤ gb221))
          have n6_ := Aside0.mk ((z62_18 : w.heap.size ≤ gb221))
          have n7_ := Aside0.mk ((z62_3 : gb216 ≠ gb221))
          have n8_ := Aside0.mk ((z62_4 : gb221 ≠ gb216))
          have n9_ := Aside0.mk ((z62_6 : gb217 ≠ gb221))
          have n10_ := Aside0.mk ((z62_7 : gb221 ≠ gb217))
          have n11_ := Aside0.mk ((z62_13 : gb218 ≠ gb221))
          have n12_ := Aside0.mk ((z62_14 : gb221 ≠ gb218))
          clear BK216
          clear BK217
          clear BK218
          clear HB
          have BK216 := n0_
          have BK217 := n1_
          have BK218 := n2_
          have HB := n3_
          have BK221 := n4_
          have GW221 := n5_
          have GE221 := n6_
          have NB216_221 := n7_
          have NB221_216 := n8_
          have NB217_221 := n9_
          have NB221_217 := n10_
          have NB218_221 := n11_
          have NB221_218 := n12_
          clear n0_ n1_ n2_ n3_ n4_ n5_ n6_ n7_ n8_ n9_ n10_ n11_ n12_
          clear hb hbox hg
          refine hK.out _ _ ⟨(blk_cell BK217.out 0).trans rfl, (blk_cell BK217.out 1).trans rfl, (blk_cell BK217.out 2).trans rfl, (blk_cell BK217.out 3).trans rfl, (blk_cell BK217.out 4).trans rfl, (blk_cell BK216.out 0).trans rfl, (blk_cell BK216.out 1).trans rfl, (blk_cell BK216.out 2).trans rfl, (blk_cell BK216.out 3).trans rfl⟩ (fun hHeld => ?_)
          clear hK K
          refine norm_ (a' := ?_) ?_ ?_
          rotate_left
          · show Act.put _ (some 16) _ = _
            simp only [Act.put, List.setIfInBounds_toArray, List.set_cons_zero, List.set_cons_succ, i64_w, i32_w]
            rfl
          exact norm_ z62_17 (hCont (gb221) _ ⟨hHeld, (pB62_ BK216.out), (pB62_ BK217.out), (pB62_ BK218.out), (pB62_ BK221.out), GW221.out, GE221.out, NB216_221.out, NB221_216.out, NB217_221.out, NB221_217.out, NB218_221.out, NB221_218.out, z62_1⟩)
        · skip
          refine box_step ?hg (N := 16) ?hd (cs := #[.int .i64 0, .int .i64 0, .int .i64 0, .int .i64 0, .int .i64 0, .int .i64 0]) (t := 83) ?hr ?_; (case hd => rfl); (case hg => rfl); (case hr => first | (go_simp; done) | (go_simp; rfl))
          intro gb221 hg w70 hbox hb
          have n0_ := Aside0.mk (blk_below (g := gb216) (o := .cells #[.int .i64 a0_0, .slice A0_1 l0_1.length c0_1, .slice A0_2 l0_2.length c0_2, .slice A0_3 l0_3.length c0_3] 33 (0, 0)) (pB62_ BK216.out) hb)
          have n1_ := Aside0.mk (blk_below (g := gb217) (o := .cells #[.int .i64 a2_0, .int .i64 a2_1, .int .i64 a2_2, .int .i64 a2_3, .int .i64 a2_4] 45 (0, 0)) (pB62_ BK217.out) hb)
          have n2_ := Aside0.mk (blk_below (g := gb218) (o := .cells #[.int .i64 0, .int .i64 0, .int .i64 0, .int .i64 0, .int .i64 0, .int .i64 0] 83 (0, 0)) (pB62_ BK218.out) hb)
          have n3_ := Aside0.mk (below_step z62_0 hb)
          have n4_ := Aside0.mk (hbox)
          have n5_ := Aside0.mk ((z62_18 : w.heap.size ≤ gb221))
          have n6_ := Aside0.mk ((z62_18 : w.heap.size ≤ gb221))
          have n7_ := Aside0.mk ((z62_3 : gb216 ≠ gb221))
          have n8_ := Aside0.mk ((z62_4 : gb221 ≠ gb216))
          have n9_ := Aside0.mk ((z62_6 : gb217 ≠ gb221))
          have n10_ := Aside0.mk ((z62_7 : gb221 ≠ gb217))
          have n11_ := Aside0.mk ((z62_13 : gb218 ≠ gb221))
          have n12_ := Aside0.mk ((z62_14 : gb221 ≠ gb218))
          clear BK216
          clear BK217
          clear BK218
          clear HB
          have BK216 := n0_
          have BK217 := n1_
          have BK218 := n2_
          have HB := n3_
          have BK221 := n4_
          have GW221 := n5_
          have GE221 := n6_
          have NB216_221 := n7_
          have NB221_216 := n8_
          have NB217_221 := n9_
          have NB221_217 := n10_
          have NB218_221 := n11_
          have NB221_218 := n12_
          clear n0_ n1_ n2_ n3_ n4_ n5_ n6_ n7_ n8_ n9_ n10_ n11_ n12_
          clear hb hbox hg
          refine hK.out _ _ ⟨(blk_cell BK217.out 0).trans rfl, (blk_cell BK217.out 1).trans rfl, (blk_cell BK217.out 2).trans rfl, (blk_cell BK217.out 3).trans rfl, (blk_cell BK217.out 4).trans rfl, (blk_cell BK216.out 0).trans rfl, (blk_cell BK216.out 1).trans rfl, (blk_cell BK216.out 2).trans rfl, (blk_cell BK216.out 3).trans rfl⟩ (fun hHeld => ?_)
          clear hK K
          refine norm_ (a' := ?_) ?_ ?_
          rotate_left
          · show Act.put _ (some 16) _ = _
            simp only [Act.put, List.setIfInBounds_toArray, List.set_cons_zero, List.set_cons_succ, i64_w, i32_w]
            rfl
          refine one_ (i := 8) (N := some 25) #[true, true, true, true, true, true, true, true, true, false, true, false] rfl rfl (one_of HT_.out z62_19) (by decide) (fun K hK => ?_)
          refine goes_ Try.func108 z62_19 rfl #[.int .i64 a5, .int .i64 a6] (by rfl) rfl rfl z62_5 ?_
          with_reducible refine (impl_EndOf.calls a5 a6 t220 _ A9.out).mono ?_
          rintro e w71 ⟨rfl, hb⟩
          refine ⟨_, rfl, ?_⟩
          have n0_ := Aside0.mk (blk_below (g := gb216) (o := .cells #[.int .i64 a0_0, .slice A0_1 l0_1.length c0_1, .slice A0_2 l0_2.length c0_2, .slice A0_3 l0_3.length c0_3] 33 (0, 0)) (pB62_ BK216.out) hb)
          have n1_ := Aside0.mk (blk_below (g := gb217) (o := .cells #[.int .i64 a2_0, .int .i64 a2_1, .int .i64 a2_2, .int .i64 a2_3, .int .i64 a2_4] 45 (0, 0)) (pB62_ BK217.out) hb)
          have n2_ := Aside0.mk (blk_below (g := gb218) (o := .cells #[.int .i64 0, .int .i64 0, .int .i64 0, .int .i64 0, .int .i64 0, .int .i64 0] 83 (0, 0)) (pB62_ BK218.out) hb)
          have n3_ := Aside0.mk (blk_below (g := gb221) (o := .cells #[.int .i64 0, .int .i64 0, .int .i64 0, .int .i64 0, .int .i64 0, .int .i64 0] 83 (0, 0)) (pB62_ BK221.out) hb)
          have n4_ := Aside0.mk (below_step z62_1 hb)
          clear BK216
          clear BK217
          clear BK218
          clear BK221
          clear HB
          have BK216 := n0_
          have BK217 := n1_
          have BK218 := n2_
          have BK221 := n3_
          have HB := n4_
          clear n0_ n1_ n2_ n3_ n4_
          (try clear hb)
          (try clear hb2)
          (try clear hk)
          (try clear hi)
          refine hK.out _ _ ⟨(blk_cell BK217.out 0).trans rfl, (blk_cell BK217.out 1).trans rfl, (blk_cell BK217.out 2).trans rfl, (blk_cell BK217.out 3).trans rfl, (blk_cell BK217.out 4).trans rfl, (blk_cell BK216.out 0).trans rfl, (blk_cell BK216.out 1).trans rfl, (blk_cell BK216.out 2).trans rfl, (blk_cell BK216.out 3).trans rfl⟩ (fun hHeld => ?_)
          clear hK K
          refine norm_ (a' := ?_) ?_ ?_
          rotate_left
          · show Act.put _ (some 25) _ = _
            simp only [Act.put, List.setIfInBounds_toArray, List.set_cons_zero, List.set_cons_succ, i64_w, i32_w]
            rfl
          refine pure_ (i := 9) (N := some 26) (v := ?_) (a' := ?_) #[true, true, true, true, true, true, true, true, true, true, true, false] rfl rfl (any_of HT_.out z62_19) (fun _ _ _ h => h) (Or.inl ⟨by rfl, ?_⟩) ?_ ?_
          rotate_left
          · intro w'
            go_simp
            with_reducible rfl
          rotate_left
          · simp only [Act.put, List.setIfInBounds_toArray, List.set_cons_zero, List.set_cons_succ, i64_w, i32_w]
            rfl
          exact norm_ z62_17 (hCont (gb221) _ ⟨hHeld, (pB62_ BK216.out), (pB62_ BK217.out), (pB62_ BK218.out), (pB62_ BK221.out), GW221.out, GE221.out, NB216_221.out, NB221_216.out, NB217_221.out, NB221_217.out, NB218_221.out, NB221_218.out, z62_1⟩)
      · skip
        refine box_step ?hg (N := 16) ?hd (cs := #[.int .i64 0, .int .i64 0, .int .i64 0, .int .i64 0, .int .i64 0, .int .i64 0]) (t := 83) ?hr ?_; (case hd => rfl); (case hg => rfl); (case hr => first | (go_simp; done) | (go_simp; rfl))
        intro gb221 hg w69 hbox hb
        have n0_ := Aside0.mk (blk_below (g := gb216) (o := .cells #[.int .i64 a0_0, .slice A0_1 l0_1.length c0_1, .slice A0_2 l0_2.length c0_2, .slice A0_3 l0_3.length c0_3] 33 (0, 0)) (pB62_ BK216.out) hb)
        have n1_ := Aside0.mk (blk_below (g := gb217) (o := .cells #[.int .i64 a2_0, .int .i64 a2_1, .int .i64 a2_2, .int .i64 a2_3, .int .i64 a2_4] 45 (0, 0)) (pB62_ BK217.out) hb)
        have n2_ := Aside0.mk (blk_below (g := gb218) (o := .cells #[.int .i64 0, .int .i64 0, .int .i64 0, .int .i64 0, .int .i64 0, .int .i64 0] 83 (0, 0)) (pB62_ BK218.out) hb)
        have n3_ := Aside0.mk (below_step z62_0 hb)
        have n4_ := Aside0.mk (hbox)
        have n5_ := Aside0.mk ((z62_18 : w.heap.size ≤ gb221))
        have n6_ := Aside0.mk ((z62_18 : w.heap.size ≤ gb221))
        have n7_ := Aside0.mk ((z62_3 : gb216 ≠ gb221))
        have n8_ := Aside0.mk ((z62_4 : gb221 ≠ gb216))
        have n9_ := Aside0.mk ((z62_6 : gb217 ≠ gb221))
        have n10_ := Aside0.mk ((z62_7 : gb221 ≠ gb217))
        have n11_ := Aside0.mk ((z62_13 : gb218 ≠ gb221))
        have n12_ := Aside0.mk ((z62_14 : gb221 ≠ gb218))
        clear BK216
        clear BK217
        clear BK218
        clear HB
        have BK216 := n0_
        have BK217 := n1_
        have BK218 := n2_
        have HB := n3_
        have BK221 := n4_
        have GW221 := n5_
        have GE221 := n6_
        have NB216_221 := n7_
        have NB221_216 := n8_
        have NB217_221 := n9_
        have NB221_217 := n10_
        have NB218_221 := n11_
        have NB221_218 := n12_
        clear n0_ n1_ n2_ n3_ n4_ n5_ n6_ n7_ n8_ n9_ n10_ n11_ n12_
        clear hb hbox hg
        refine hK.out _ _ ⟨(blk_cell BK217.out 0).trans rfl, (blk_cell BK217.out 1).trans rfl, (blk_cell BK217.out 2).trans rfl, (blk_cell BK217.out 3).trans rfl, (blk_cell BK217.out 4).trans rfl, (blk_cell BK216.out 0).trans rfl, (blk_cell BK216.out 1).trans rfl, (blk_cell BK216.out 2).trans rfl, (blk_cell BK216.out 3).trans rfl⟩ (fun hHeld => ?_)
        clear hK K
        refine norm_ (a' := ?_) ?_ ?_
        rotate_left
        · show Act.put _ (some 16) _ = _
          simp only [Act.put, List.setIfInBounds_toArray, List.set_cons_zero, List.set_cons_succ, i64_w, i32_w]
          rfl
        refine one_ (i := 4) (N := some 21) #[true, true, true, true, true, true, true, true, false, false, true, false] rfl rfl (one_of HT_.out z62_19) (by decide) (fun K hK => ?_)
        refine goes_ Try.func29 z62_19 rfl #[.agg #[.int .i64 a0_0, .slice A0_1 l0_1.length c0_1, .slice A0_2 l0_2.length c0_2, .slice A0_3 l0_3.length c0_3], .slice A3 l3.length c3] (by rfl) rfl rfl z62_5 ?_
        with_reducible refine (impl_AppraiseLog.calls k a0_0 _ _ l0_1 _ _ l0_2 _ _ l0_3 _ _ l3 t219 _ ?side1 ?side2 ?side3 ?side4 ?side5 ?side6 ?side7 ?side8 A8.out).mono ?_
        (case side1 => repeat (first | exact (Kd.C_below HR0_1.out HB.out) | (with_reducible refine Kd.C_alloc ?_ _) | (with_reducible refine Kd.C_drewN ?_ _) | (with_reducible refine Kd.C_drew ?_)))
        (case side2 => exact HC0_1.out)
        (case side3 => repeat (first | exact (Kd.C_below HR0_2.out HB.out) | (with_reducible refine Kd.C_alloc ?_ _) | (with_reducible refine Kd.C_drewN ?_ _) | (with_reducible refine Kd.C_drew ?_)))
        (case side4 => exact HC0_2.out)
        (case side5 => repeat (first | exact (Kd.C_below HR0_3.out HB.out) | (with_reducible refine Kd.C_alloc ?_ _) | (with_reducible refine Kd.C_drewN ?_ _) | (with_reducible refine Kd.C_drew ?_)))
        (case side6 => exact HC0_3.out)
        (case side7 => repeat (first | exact (Kd.C_below HR3.out HB.out) | (with_reducible refine Kd.C_alloc ?_ _) | (with_reducible refine Kd.C_drewN ?_ _) | (with_reducible refine Kd.C_drew ?_)))
        (case side8 => exact HC3.out)
        rintro e w70 ⟨rfl, hb⟩
        refine ⟨_, rfl, ?_⟩
        have n0_ := Aside0.mk (blk_below (g := gb216) (o := .cells #[.int .i64 a0_0, .slice A0_1 l0_1.length c0_1, .slice A0_2 l0_2.length c0_2, .slice A0_3 l0_3.length c0_3] 33 (0, 0)) (pB62_ BK216.out) hb)
        have n1_ := Aside0.mk (blk_below (g := gb217) (o := .cells #[.int .i64 a2_0, .int .i64 a2_1, .int .i64 a2_2, .int .i64 a2_3, .int .i64 a2_4] 45 (0, 0)) (pB62_ BK217.out) hb)
        have n2_ := Aside0.mk (blk_below (g := gb218) (o := .cells #[.int .i64 0, .int .i64 0, .int .i64 0, .int .i64 0, .int .i64 0, .int .i64 0] 83 (0, 0)) (pB62_ BK218.out) hb)
        have n3_ := Aside0.mk (blk_below (g := gb221) (o := .cells #[.int .i64 0, .int .i64 0, .int .i64 0, .int .i64 0, .int .i64 0, .int .i64 0] 83 (0, 0)) (pB62_ BK221.out) hb)
        have n4_ := Aside0.mk (below_step z62_1 hb)
        clear BK216
        clear BK217
        clear BK218
        clear BK221
        clear HB
        have BK216 := n0_
        have BK217 := n1_
        have BK218 := n2_
        have BK221 := n3_
        have HB := n4_
        clear n0_ n1_ n2_ n3_ n4_
        (try clear hb)
        (try clear hb2)
        (try clear hk)
        (try clear hi)
        refine hK.out _ _ ⟨(blk_cell BK217.out 0).trans rfl, (blk_cell BK217.out 1).trans rfl, (blk_cell BK217.out 2).trans rfl, (blk_cell BK217.out 3).trans rfl, (blk_cell BK217.out 4).trans rfl, (blk_cell BK216.out 0).trans rfl, (blk_cell BK216.out 1).trans rfl, (blk_cell BK216.out 2).trans rfl, (blk_cell BK216.out 3).trans rfl⟩ (fun hHeld => ?_)
        clear hK K
        refine norm_ (a' := ?_) ?_ ?_
        rotate_left
        · show Act.put _ (some 21) _ = _
          simp only [Act.put, List.setIfInBounds_toArray, List.set_cons_zero, List.set_cons_succ, i64_w, i32_w]
          rfl
        refine one_ (i := 8) (N := some 25) #[true, true, true, true, true, true, true, true, true, false, true, false] rfl rfl (one_of HT_.out z62_19) (by decide) (fun K hK => ?_)
        refine goes_ Try.func108 z62_19 rfl #[.int .i64 a5, .int .i64 a6] (by rfl) rfl rfl z62_5 ?_
        with_reducible refine (impl_EndOf.calls a5 a6 t220 _ A9.out).mono ?_
        rintro e w71 ⟨rfl, hb⟩
        refine ⟨_, rfl, ?_⟩
        have n0_ := Aside0.mk (blk_below (g := gb216) (o := .cells #[.int .i64 a0_0, .slice A0_1 l0_1.length c0_1, .slice A0_2 l0_2.length c0_2, .slice A0_3 l0_3.length c0_3] 33 (0, 0)) (pB62_ BK216.out) hb)
        have n1_ := Aside0.mk (blk_below (g := gb217) (o := .cells #[.int .i64 a2_0, .int .i64 a2_1, .int .i64 a2_2, .int .i64 a2_3, .int .i64 a2_4] 45 (0, 0)) (pB62_ BK217.out) hb)
        have n2_ := Aside0.mk (blk_below (g := gb218) (o := .cells #[.int .i64 0, .int .i64 0, .int .i64 0, .int .i64 0, .int .i64 0, .int .i64 0] 83 (0, 0)) (pB62_ BK218.out) hb)
        have n3_ := Aside0.mk (blk_below (g := gb221) (o := .cells #[.int .i64 0, .int .i64 0, .int .i64 0, .int .i64 0, .int .i64 0, .int .i64 0] 83 (0, 0)) (pB62_ BK221.out) hb)
        have n4_ := Aside0.mk (below_step z62_1 hb)
        clear BK216
        clear BK217
        clear BK218
        clear BK221
        clear HB
        have BK216 := n0_
        have BK217 := n1_
        have BK218 := n2_
        have BK221 := n3_
        have HB := n4_
        clear n0_ n1_ n2_ n3_ n4_
        (try clear hb)
        (try clear hb2)
        (try clear hk)
        (try clear hi)
        refine hK.out _ _ ⟨(blk_cell BK217.out 0).trans rfl, (blk_cell BK217.out 1).trans rfl, (blk_cell BK217.out 2).trans rfl, (blk_cell BK217.out 3).trans rfl, (blk_cell BK217.out 4).trans rfl, (blk_cell BK216.out 0).trans rfl, (blk_cell BK216.out 1).trans rfl, (blk_cell BK216.out 2).trans rfl, (blk_cell BK216.out 3).trans rfl⟩ (fun hHeld => ?_)
        clear hK K
        refine norm_ (a' := ?_) ?_ ?_
        rotate_left
        · show Act.put _ (some 25) _ = _
          simp only [Act.put, List.setIfInBounds_toArray, List.set_cons_zero, List.set_cons_succ, i64_w, i32_w]
          rfl
        refine pure_ (i := 9) (N := some 26) (v := ?_) (a' := ?_) #[true, true, true, true, true, true, true, true, true, true, true, false] rfl rfl (any_of HT_.out z62_19) (fun _ _ _ h => h) (Or.inl ⟨by rfl, ?_⟩) ?_ ?_
        rotate_left
        · intro w'
          go_simp
          with_reducible rfl
        rotate_left
        · simp only [Act.put, List.setIfInBounds_toArray, List.set_cons_zero, List.set_cons_succ, i64_w, i32_w]
          rfl
        exact norm_ z62_17 (hCont (gb221) _ ⟨hHeld, (pB62_ BK216.out), (pB62_ BK217.out), (pB62_ BK218.out), (pB62_ BK221.out), GW221.out, GE221.out, NB216_221.out, NB221_216.out, NB217_221.out, NB221_217.out, NB218_221.out, NB221_218.out, z62_1⟩)
    rintro gb221 w72 ⟨hS_, h0_, h1_, h2_, h3_, h4_, h5_, h6_, h7_, h8_, h9_, h10_, h11_, h12_⟩
    have n0_ : Aside0 (w72.heap[gb216]? = some (.cells #[.int .i64 a0_0, .slice A0_1 l0_1.length c0_1, .slice A0_2 l0_2.length c0_2, .slice A0_3 l0_3.length c0_3] 33 (0, 0))) := ⟨h0_⟩
    have n1_ : Aside0 (w72.heap[gb217]? = some (.cells #[.int .i64 a2_0, .int .i64 a2_1, .int .i64 a2_2, .int .i64 a2_3, .int .i64 a2_4] 45 (0, 0))) := ⟨h1_⟩
    have n2_ : Aside0 (w72.heap[gb218]? = some (.cells #[.int .i64 0, .int .i64 0, .int .i64 0, .int .i64 0, .int .i64 0, .int .i64 0] 83 (0, 0))) := ⟨h2_⟩
    have n3_ : Aside0 (w72.heap[gb221]? = some (.cells #[.int .i64 0, .int .i64 0, .int .i64 0, .int .i64 0, .int .i64 0, .int .i64 0] 83 (0, 0))) := ⟨h3_⟩
    have n4_ : Aside0 (w.heap.size ≤ gb221) := ⟨h4_⟩
    have n5_ : Aside0 (w.heap.size ≤ gb221) := ⟨h5_⟩
    have n6_ : Aside0 (gb216 ≠ gb221) := ⟨h6_⟩
    have n7_ : Aside0 (gb221 ≠ gb216) := ⟨h7_⟩
    have n8_ : Aside0 (gb217 ≠ gb221) := ⟨h8_⟩
    have n9_ : Aside0 (gb221 ≠ gb217) := ⟨h9_⟩
    have n10_ : Aside0 (gb218 ≠ gb221) := ⟨h10_⟩
    have n11_ : Aside0 (gb221 ≠ gb218) := ⟨h11_⟩
    have n12_ : Aside0 (Below w.heap.size w w72) := ⟨h12_⟩
    clear BK216
    clear BK217
    clear BK218
    clear HB
    clear h0_ h1_ h2_ h3_ h4_ h5_ h6_ h7_ h8_ h9_ h10_ h11_ h12_
    have BK216 := n0_
    have BK217 := n1_
    have BK218 := n2_
    have BK221 := n3_
    have GW221 := n4_
    have GE221 := n5_
    have NB216_221 := n6_
    have NB221_216 := n7_
    have NB217_221 := n8_
    have NB221_217 := n9_
    have NB218_221 := n10_
    have NB221_218 := n11_
    have HB := n12_
    clear n0_ n1_ n2_ n3_ n4_ n5_ n6_ n7_ n8_ n9_ n10_ n11_ n12_
    have hHeld : w72.cell? ⟨gb217, 0, none⟩ = some (.int .i64 a2_0) ∧ w72.cell? ⟨gb217, 1, none⟩ = some (.int .i64 a2_1) ∧ w72.cell? ⟨gb217, 2, none⟩ = some (.int .i64 a2_2) ∧ w72.cell? ⟨gb217, 3, none⟩ = some (.int .i64 a2_3) ∧ w72.cell? ⟨gb217, 4, none⟩ = some (.int .i64 a2_4) ∧ w72.cell? ⟨gb216, 0, none⟩ = some (.int .i64 a0_0) ∧ w72.cell? ⟨gb216, 1, none⟩ = some (.slice A0_1 l0_1.length c0_1) ∧ w72.cell? ⟨gb216, 2, none⟩ = some (.slice A0_2 l0_2.length c0_2) ∧ w72.cell? ⟨gb216, 3, none⟩ = some (.slice A0_3 l0_3.length c0_3) := hS_
    refine norm_ (a' := ?_) ?_ ?_
    rotate_left
    · simp only [putAll, Act.put, List.setIfInBounds_toArray, List.set_cons_zero, List.set_cons_succ]
      rfl
    refine one_ (i := 11) (N := none) #[true, true, true, true, true, true, true, true, true, true, true, true] rfl rfl (one_of HT_.out z62_19) (by decide) (fun K hK => ?_)
    have hs73 : w72.cell? ⟨gb221, 0, none⟩ = some (.int .i64 0) := (blk_cell BK221.out 0).trans rfl
    have hfs73 := blk_frozen BK221.out 0
    have hns73_0 := NB216_221.out
    have hns73_1 := NB217_221.out
    have hns73_2 := NB218_221.out
    have hms73_0 := NB221_216.out
    have hms73_1 := NB221_217.out
    have hms73_2 := NB221_218.out
    have hs74 : w72.cell? ⟨gb221, 1, none⟩ = some (.int .i64 0) := (blk_cell BK221.out 1).trans rfl
    have hfs74 := blk_frozen BK221.out 1
    have hns74_0 := NB216_221.out
    have hns74_1 := NB217_221.out
    have hns74_2 := NB218_221.out
    have hms74_0 := NB221_216.out
    have hms74_1 := NB221_217.out
    have hms74_2 := NB221_218.out
    have hs75 : w72.cell? ⟨gb221, 2, none⟩ = some (.int .i64 0) := (blk_cell BK221.out 2).trans rfl
    have hfs75 := blk_frozen BK221.out 2
    have hns75_0 := NB216_221.out
    have hns75_1 := NB217_221.out
    have hns75_2 := NB218_221.out
    have hms75_0 := NB221_216.out
    have hms75_1 := NB221_217.out
    have hms75_2 := NB221_218.out
    have hs76 : w72.cell? ⟨gb221, 3, none⟩ = some (.int .i64 0) := (blk_cell BK221.out 3).trans rfl
    have hfs76 := blk_frozen BK221.out 3
    have hns76_0 := NB216_221.out
    have hns76_1 := NB217_221.out
    have hns76_2 := NB218_221.out
    have hms76_0 := NB221_216.out
    have hms76_1 := NB221_217.out
    have hms76_2 := NB221_218.out
    have hs77 : w72.cell? ⟨gb221, 4, none⟩ = some (.int .i64 0) := (blk_cell BK221.out 4).trans rfl
    have hfs77 := blk_frozen BK221.out 4
    have hns77_0 := NB216_221.out
    have hns77_1 := NB217_221.out
    have hns77_2 := NB218_221.out
    have hms77_0 := NB221_216.out
    have hms77_1 := NB221_217.out
    have hms77_2 := NB221_218.out
    have hs78 : w72.cell? ⟨gb221, 5, none⟩ = some (.int .i64 0) := (blk_cell BK221.out 5).trans rfl
    have hfs78 := blk_frozen BK221.out 5
    have hns78_0 := NB216_221.out
    have hns78_1 := NB217_221.out
    have hns78_2 := NB218_221.out
    have hms78_0 := NB221_216.out
    have hms78_1 := NB221_217.out
    have hms78_2 := NB221_218.out
    refine skip_ (w1 := ?_) (by rfl) rfl ?_ ?_
    rotate_left
    · go_simp
      rfl
    refine hK.out _ _ ⟨((cell_far (p := ⟨gb221, _, none⟩) NB217_221.out _).trans (((cell_far (p := ⟨gb221, _, none⟩) NB217_221.out _).trans (((cell_far (p := ⟨gb221, _, none⟩) NB217_221.out _).trans (((cell_far (p := ⟨gb221, _, none⟩) NB217_221.out _).trans (((cell_far (p := ⟨gb221, _, none⟩) NB217_221.out _).trans (((cell_far (p := ⟨gb221, _, none⟩) NB217_221.out _).trans (hHeld.1)))))))))))), ((cell_far (p := ⟨gb221, _, none⟩) NB217_221.out _).trans (((cell_far (p := ⟨gb221, _, none⟩) NB217_221.out _).trans (((cell_far (p := ⟨gb221, _, none⟩) NB217_221.out _).trans (((cell_far (p := ⟨gb221, _, none⟩) NB217_221.out _).trans (((cell_far (p := ⟨gb221, _, none⟩) NB217_221.out _).trans (((cell_far (p := ⟨gb221, _, none⟩) NB217_221.out _).trans (hHeld.2.1)))))))))))), ((cell_far (p := ⟨gb221, _, none⟩) NB217_221.out _).trans (((cell_far (p := ⟨gb221, _, none⟩) NB217_221.out _).trans (((cell_far (p := ⟨gb221, _, none⟩) NB217_221.out _).trans (((cell_far (p := ⟨gb221, _, none⟩) NB217_221.out _).trans (((cell_far (p := ⟨gb221, _, none⟩) NB217_221.out _).trans (((cell_far (p := ⟨gb221, _, none⟩) NB217_221.out _).trans (hHeld.2.2.1)))))))))))), ((cell_far (p := ⟨gb221, _, none⟩) NB217_221.out _).trans (((cell_far (p := ⟨gb221, _, none⟩) NB217_221.out _).trans (((cell_far (p := ⟨gb221, _, none⟩) NB217_221.out _).trans (((cell_far (p := ⟨gb221, _, none⟩) NB217_221.out _).trans (((cell_far (p := ⟨gb221, _, none⟩) NB217_221.out _).trans (((cell_far (p := ⟨gb221, _, none⟩) NB217_221.out _).trans (hHeld.2.2.2.1)))))))))))), ((cell_far (p := ⟨gb221, _, none⟩) NB217_221.out _).trans (((cell_far (p := ⟨gb221, _, none⟩) NB217_221.out _).trans (((cell_far (p := ⟨gb221, _, none⟩) NB217_221.out _).trans (((cell_far (p := ⟨gb221, _, none⟩) NB217_221.out _).trans (((cell_far (p := ⟨gb221, _, none⟩) NB217_221.out _).trans (((cell_far (p := ⟨gb221, _, none⟩) NB217_221.out _).trans (hHeld.2.2.2.2.1)))))))))))), ((cell_far (p := ⟨gb221, _, none⟩) NB216_221.out _).trans (((cell_far (p := ⟨gb221, _, none⟩) NB216_221.out _).trans (((cell_far (p := ⟨gb221, _, none⟩) NB216_221.out _).trans (((cell_far (p := ⟨gb221, _, none⟩) NB216_221.out _).trans (((cell_far (p := ⟨gb221, _, none⟩) NB216_221.out _).trans (((cell_far (p := ⟨gb221, _, none⟩) NB216_221.out _).trans (hHeld.2.2.2.2.2.1)))))))))))), ((cell_far (p := ⟨gb221, _, none⟩) NB216_221.out _).trans (((cell_far (p := ⟨gb221, _, none⟩) NB216_221.out _).trans (((cell_far (p := ⟨gb221, _, none⟩) NB216_221.out _).trans (((cell_far (p := ⟨gb221, _, none⟩) NB216_221.out _).trans (((cell_far (p := ⟨gb221, _, none⟩) NB216_221.out _).trans (((cell_far (p := ⟨gb221, _, none⟩) NB216_221.out _).trans (hHeld.2.2.2.2.2.2.1)))))))))))), ((cell_far (p := ⟨gb221, _, none⟩) NB216_221.out _).trans (((cell_far (p := ⟨gb221, _, none⟩) NB216_221.out _).trans (((cell_far (p := ⟨gb221, _, none⟩) NB216_221.out _).trans (((cell_far (p := ⟨gb221, _, none⟩) NB216_221.out _).trans (((cell_far (p := ⟨gb221, _, none⟩) NB216_221.out _).trans (((cell_far (p := ⟨gb221, _, none⟩) NB216_221.out _).trans (hHeld.2.2.2.2.2.2.2.1)))))))))))), ((cell_far (p := ⟨gb221, _, none⟩) NB216_221.out _).trans (((cell_far (p := ⟨gb221, _, none⟩) NB216_221.out _).trans (((cell_far (p := ⟨gb221, _, none⟩) NB216_221.out _).trans (((cell_far (p := ⟨gb221, _, none⟩) NB216_221.out _).trans (((cell_far (p := ⟨gb221, _, none⟩) NB216_221.out _).trans (((cell_far (p := ⟨gb221, _, none⟩) NB216_221.out _).trans (hHeld.2.2.2.2.2.2.2.2))))))))))))⟩ (fun hHeld => ?_)
    clear hK K
    refine done_ (done_of HT_.out z62_19) ?_
    have hnb79 := NB217_216.out
    have hnc79 := NB216_217.out
    have hnb80 := NB217_218.out
    have hnc80 := NB218_217.out
    have hnb81 := NB217_221.out
    have hnc81 := NB221_217.out
    have hcz82_0 : w72.cell? ⟨gb217, 0, none⟩ = some (.int .i64 a2_0) := (blk_cell BK217.out 0).trans rfl
    have hcz82_1 : w72.cell? ⟨gb217, 1, none⟩ = some (.int .i64 a2_1) := (blk_cell BK217.out 1).trans rfl
    have hcz82_2 : w72.cell? ⟨gb217, 2, none⟩ = some (.int .i64 a2_2) := (blk_cell BK217.out 2).trans rfl
    have hcz82_3 : w72.cell? ⟨gb217, 3, none⟩ = some (.int .i64 a2_3) := (blk_cell BK217.out 3).trans rfl
    have hcz82_4 : w72.cell? ⟨gb217, 4, none⟩ = some (.int .i64 a2_4) := (blk_cell BK217.out 4).trans rfl
    have hfz82_0 := blk_frozen BK217.out 0
    have hfz82_1 := blk_frozen BK217.out 1
    have hfz82_2 := blk_frozen BK217.out 2
    have hfz82_3 := blk_frozen BK217.out 3
    have hfz82_4 := blk_frozen BK217.out 4
    try go_wp2_with (first | ((with_reducible refine gate_callee (f := 38) rfl ?_); refine goesL_ (some 32) rfl rfl Try.func38 z62_19 rfl #[.int .i64 a1, .agg #[.int .i64 a2_0, .int .i64 a2_1, .int .i64 a2_2, .int .i64 a2_3, .int .i64 a2_4], .slice A3 l3.length c3, .int .i64 a4, .int .i64 a5, .int .i64 5] rfl z62_5 ?_; (with_reducible refine (impl_CheckQuote.calls k a1 a2_0 a2_1 a2_2 a2_3 a2_4 _ _ l3 a4 a5 5 false _ ?side1 ?side2 A10.out).mono ?_); (case side1 => exact Kd.C_below HR3.out z62_1); (case side2 => exact HC3.out); rintro e w83 ⟨rfl, hb⟩; refine ⟨_, rfl, ?_⟩; have n0_ := Aside0.mk (blk_below (g := gb216) (o := .cells #[.int .i64 a0_0, .slice A0_1 l0_1.length c0_1, .slice A0_2 l0_2.length c0_2, .slice A0_3 l0_3.length c0_3] 33 (0, 0)) z62_10 hb); have n1_ := Aside0.mk (blk_below (g := gb217) (o := .cells #[.int .i64 a2_0, .int .i64 a2_1, .int .i64 a2_2, .int .i64 a2_3, .int .i64 a2_4] 45 (0, 0)) z62_9 hb); have n2_ := Aside0.mk (blk_below (g := gb218) (o := .cells #[.int .i64 0, .int .i64 0, .int .i64 0, .int .i64 0, .int .i64 0, .int .i64 0] 83 (0, 0)) z62_8 hb); have n3_ := Aside0.mk (blk_below (g := gb221) (o := .cells #[.int .i64 3, .int .i64 a2_0, .int .i64 t219, .int .i64 1, .int .i64 a5, .int .i64 t220] 83 (0, 0)) z62_2 hb); have n4_ := Aside0.mk (below_step z62_1 hb); clear BK216; clear BK217; clear BK218; clear BK221; clear HB; have BK216 := n0_; have BK217 := n1_; have BK218 := n2_; have BK221 := n3_; have HB := n4_; clear n0_ n1_ n2_ n3_ n4_; (try clear hb); (try clear hb2); (try clear hk); (try clear hi); have hnb84 := NB218_216.out; have hnc84 := NB216_218.out; have hnb85 := NB218_221.out; have hnc85 := NB221_218.out; have hcz86_0 : w83.cell? ⟨gb218, 0, none⟩ = some (.int .i64 0) := (blk_cell BK218.out 0).trans rfl; have hcz86_1 : w83.cell? ⟨gb218, 1, none⟩ = some (.int .i64 0) := (blk_cell BK218.out 1).trans rfl; have hcz86_2 : w83.cell? ⟨gb218, 2, none⟩ = some (.int .i64 0) := (blk_cell BK218.out 2).trans rfl; have hcz86_3 : w83.cell? ⟨gb218, 3, none⟩ = some (.int .i64 0) := (blk_cell BK218.out 3).trans rfl; have hcz86_4 : w83.cell? ⟨gb218, 4, none⟩ = some (.int .i64 0) := (blk_cell BK218.out 4).trans rfl; have hcz86_5 : w83.cell? ⟨gb218, 5, none⟩ = some (.int .i64 0) := (blk_cell BK218.out 5).trans rfl; have hfz86_0 := blk_frozen BK218.out 0; have hfz86_1 := blk_frozen BK218.out 1; have hfz86_2 := blk_frozen BK218.out 2; have hfz86_3 := blk_frozen BK218.out 3; have hfz86_4 := blk_frozen BK218.out 4; have hfz86_5 := blk_frozen BK218.out 5))
    refine bodyPost_ret (results_ct rfl _ _ gb218 83 #[.int .i64 0, .int .i64 0, .int .i64 0, .int .i64 0, .int .i64 0, .int .i64 0] (0, 0) _ rfl z62_12 Try.underlying83 rfl z62_19) rfl ?_
    exact ⟨by first | rfl | (simp [errW_none, errW_some] <;> rfl) | (simp [*, errW_none, errW_some] <;> rfl), by repeat (first | (with_reducible first | exact HB.out | apply below_alloc | apply pw_below_drewN | apply below_drew1 | refine below_set ?_ GE216.out | refine below_set ?_ GE217.out | refine below_set ?_ GE218.out | refine below_set ?_ GE221.out) | exact HB.out)⟩

end Go.Proofs.Ytlmhemcpkmjkiaa.XFnExactHealthFact
