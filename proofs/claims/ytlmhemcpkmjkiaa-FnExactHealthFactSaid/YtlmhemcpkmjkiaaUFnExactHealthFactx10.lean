/- Written by this session's own program (wip/xprint, which runs over the kit's print): what the functions that the law reaches come to, each proved; and the law's row. Conditions: none. -/
import Derived.Test.YtlmhemcpkmjkiaaUFnExactHealthFactx0
import Derived.Test.YtlmhemcpkmjkiaaUFnExactHealthFactx7
import Derived.Test.YtlmhemcpkmjkiaaUFnExactHealthFactx8
import Derived.Test.YtlmhemcpkmjkiaaUFnExactHealthFactx9
namespace Go.Proofs.Ytlmhemcpkmjkiaa.XFnExactHealthFact
open Go.RowKit Go.Proofs.YtlmhemcpkmjkiaaW.PrintWords Go.Proofs.YtlmhemcpkmjkiaaW.PrintLast Go.Proofs.YtlmhemcpkmjkiaaW.PrintMore
attribute [local go_sem] max2_int min2_int max_two min_two max_three min_three max_four min_four   -- for this text's walks alone
set_option linter.unusedVariables false
set_option linter.unusedSimpArgs false

/-! ### spec_HealthFact: function 64 -/
def spec_HealthFact.f (k : Nat) (a0_0 : Int) (l0_1 : List Int) (l0_2 : List Int) (l0_3 : List Int) (a1 : Int) (a2_0 : Int) (a2_1 : Int) (a2_2 : Int) (a2_3 : Int) (a2_4 : Int) (l3 : List Int) (a4 : Int) (a5 : Int) (a6 : Int) : Option (Int × Int × Int × Int × Int × Int × Bool) := (spec_AppraiseLog.f k a0_0 l0_1 l0_2 l0_3 l3).bind fun t308 => ((spec_EndOf.f a5 a6).bind fun t309 => ((spec_CheckQuote.f k a1 a2_0 a2_1 a2_2 a2_3 a2_4 l3 a4 a5 5).bind fun t311 => (if t311 = true then ((spec_IsFact.f 3 a2_0 t308 1 a5 t309).bind fun t312 => (if t312 = true then (some (3, a2_0, t308, 1, a5, t309, true)) else (some (0, 0, 0, 0, 0, 0, false)))) else (some (0, 0, 0, 0, 0, 0, false)))))
def spec_HealthFact.T1 : Bool × List (List Nat × List Nat) := (true, [([], []), ([0], [0]), ([], []), ([], []), ([2, 3], [2, 3]), ([], []), ([], []), ([], []), ([6, 7, 4], [6, 7]), ([1, 4, 5, 8], [1, 4, 5, 8]), ([], []), ([10, 9, 8, 0, 1, 2, 3, 4, 5, 6, 7, 8, 9, 10], [9, 10])])
def spec_HealthFact.B1 : List Nat := [0, 1, 0, 0, 12, 0, 0, 0, 220, 511, 0, 2047]
theorem spec_HealthFact.tab1 : rtab .any (opsOf Try.f64 1) = spec_HealthFact.T1 := by kernel_rfl
theorem spec_HealthFact.bits1 : waitsOk spec_HealthFact.T1.2 spec_HealthFact.B1 = true := by kernel_rfl
theorem pB64_ {P Q : Prop} (h : P) (g : P → Q := by intro h_; (with_reducible repeat (first | refine blk_drewN ?_ _ | refine blk_drew ?_ | refine blk_alloc ?_ _)); exact h_) : Q := g h
theorem z64_0 {Q : Prop} (g : Q := by repeat (first | (with_reducible first | exact HB.out | apply below_alloc | apply pw_below_drewN | apply below_drew1 | refine below_set ?_ GE305.out | refine below_set ?_ GE306.out | refine below_set ?_ GE307.out) | exact HB.out)) : Q := g
theorem z64_1 {Q : Prop} (g : Q := by repeat (first | (with_reducible first | exact HB.out | apply below_alloc | apply pw_below_drewN | apply below_drew1 | refine below_set ?_ GE305.out | refine below_set ?_ GE306.out | refine below_set ?_ GE307.out | refine below_set ?_ GE310.out) | exact HB.out)) : Q := g
theorem z64_2 {Q : Prop} (g : Q := by (with_reducible repeat (first | refine blk_drewN ?_ _ | refine blk_drew ?_ | refine blk_alloc ?_ _)); refine blk_put (cs := #[.int .i64 3, .int .i64 a2_0, .int .i64 t308, .int .i64 1, .int .i64 a5, .int .i64 0]) ?_ 5 _ rfl; (with_reducible repeat (first | refine blk_drewN ?_ _ | refine blk_drew ?_ | refine blk_alloc ?_ _)); refine blk_put (cs := #[.int .i64 3, .int .i64 a2_0, .int .i64 t308, .int .i64 1, .int .i64 0, .int .i64 0]) ?_ 4 _ rfl; (with_reducible repeat (first | refine blk_drewN ?_ _ | refine blk_drew ?_ | refine blk_alloc ?_ _)); refine blk_put (cs := #[.int .i64 3, .int .i64 a2_0, .int .i64 t308, .int .i64 0, .int .i64 0, .int .i64 0]) ?_ 3 _ rfl; (with_reducible repeat (first | refine blk_drewN ?_ _ | refine blk_drew ?_ | refine blk_alloc ?_ _)); refine blk_put (cs := #[.int .i64 3, .int .i64 a2_0, .int .i64 0, .int .i64 0, .int .i64 0, .int .i64 0]) ?_ 2 _ rfl; (with_reducible repeat (first | refine blk_drewN ?_ _ | refine blk_drew ?_ | refine blk_alloc ?_ _)); refine blk_put (cs := #[.int .i64 3, .int .i64 0, .int .i64 0, .int .i64 0, .int .i64 0, .int .i64 0]) ?_ 1 _ rfl; (with_reducible repeat (first | refine blk_drewN ?_ _ | refine blk_drew ?_ | refine blk_alloc ?_ _)); refine blk_put (cs := #[.int .i64 0, .int .i64 0, .int .i64 0, .int .i64 0, .int .i64 0, .int .i64 0]) ?_ 0 _ rfl; (with_reducible repeat (first | refine blk_drewN ?_ _ | refine blk_drew ?_ | refine blk_alloc ?_ _)); exact BK310.out) : Q := g
theorem z64_3 {Q : Prop} (g : Q := by rw [hg]; exact Nat.ne_of_lt (blk_lt (g := gb305) (o := .cells #[.int .i64 a0_0, .slice A0_1 l0_1.length c0_1, .slice A0_2 l0_2.length c0_2, .slice A0_3 l0_3.length c0_3] 33 (0, 0)) (pB64_ BK305.out))) : Q := g
theorem z64_4 {Q : Prop} (g : Q := by rw [hg]; exact Nat.ne_of_gt (blk_lt (g := gb305) (o := .cells #[.int .i64 a0_0, .slice A0_1 l0_1.length c0_1, .slice A0_2 l0_2.length c0_2, .slice A0_3 l0_3.length c0_3] 33 (0, 0)) (pB64_ BK305.out))) : Q := g
theorem z64_5 {Q : Prop} (g : Q := by (try simp only [List.map_toArray, List.map_cons, List.map_nil]); first | done | rfl | (simp only [List.length_drop, List.length_take]; rfl)) : Q := g
theorem z64_6 {Q : Prop} (g : Q := by rw [hg]; exact Nat.ne_of_lt (blk_lt (g := gb306) (o := .cells #[.int .i64 a2_0, .int .i64 a2_1, .int .i64 a2_2, .int .i64 a2_3, .int .i64 a2_4] 45 (0, 0)) (pB64_ BK306.out))) : Q := g
theorem z64_7 {Q : Prop} (g : Q := by rw [hg]; exact Nat.ne_of_gt (blk_lt (g := gb306) (o := .cells #[.int .i64 a2_0, .int .i64 a2_1, .int .i64 a2_2, .int .i64 a2_3, .int .i64 a2_4] 45 (0, 0)) (pB64_ BK306.out))) : Q := g
theorem z64_8 {Q : Prop} (g : Q := by (with_reducible repeat (first | refine blk_drewN ?_ _ | refine blk_drew ?_ | refine blk_alloc ?_ _)); refine blk_far ?_ NB307_310.out _; (with_reducible repeat (first | refine blk_drewN ?_ _ | refine blk_drew ?_ | refine blk_alloc ?_ _)); refine blk_far ?_ NB307_310.out _; (with_reducible repeat (first | refine blk_drewN ?_ _ | refine blk_drew ?_ | refine blk_alloc ?_ _)); refine blk_far ?_ NB307_310.out _; (with_reducible repeat (first | refine blk_drewN ?_ _ | refine blk_drew ?_ | refine blk_alloc ?_ _)); refine blk_far ?_ NB307_310.out _; (with_reducible repeat (first | refine blk_drewN ?_ _ | refine blk_drew ?_ | refine blk_alloc ?_ _)); refine blk_far ?_ NB307_310.out _; (with_reducible repeat (first | refine blk_drewN ?_ _ | refine blk_drew ?_ | refine blk_alloc ?_ _)); refine blk_far ?_ NB307_310.out _; (with_reducible repeat (first | refine blk_drewN ?_ _ | refine blk_drew ?_ | refine blk_alloc ?_ _)); exact BK307.out) : Q := g
theorem z64_9 {Q : Prop} (g : Q := by (with_reducible repeat (first | refine blk_drewN ?_ _ | refine blk_drew ?_ | refine blk_alloc ?_ _)); refine blk_far ?_ NB306_310.out _; (with_reducible repeat (first | refine blk_drewN ?_ _ | refine blk_drew ?_ | refine blk_alloc ?_ _)); refine blk_far ?_ NB306_310.out _; (with_reducible repeat (first | refine blk_drewN ?_ _ | refine blk_drew ?_ | refine blk_alloc ?_ _)); refine blk_far ?_ NB306_310.out _; (with_reducible repeat (first | refine blk_drewN ?_ _ | refine blk_drew ?_ | refine blk_alloc ?_ _)); refine blk_far ?_ NB306_310.out _; (with_reducible repeat (first | refine blk_drewN ?_ _ | refine blk_drew ?_ | refine blk_alloc ?_ _)); refine blk_far ?_ NB306_310.out _; (with_reducible repeat (first | refine blk_drewN ?_ _ | refine blk_drew ?_ | refine blk_alloc ?_ _)); refine blk_far ?_ NB306_310.out _; (with_reducible repeat (first | refine blk_drewN ?_ _ | refine blk_drew ?_ | refine blk_alloc ?_ _)); exact BK306.out) : Q := g
theorem z64_10 {Q : Prop} (g : Q := by (with_reducible repeat (first | refine blk_drewN ?_ _ | refine blk_drew ?_ | refine blk_alloc ?_ _)); refine blk_far ?_ NB305_310.out _; (with_reducible repeat (first | refine blk_drewN ?_ _ | refine blk_drew ?_ | refine blk_alloc ?_ _)); refine blk_far ?_ NB305_310.out _; (with_reducible repeat (first | refine blk_drewN ?_ _ | refine blk_drew ?_ | refine blk_alloc ?_ _)); refine blk_far ?_ NB305_310.out _; (with_reducible repeat (first | refine blk_drewN ?_ _ | refine blk_drew ?_ | refine blk_alloc ?_ _)); refine blk_far ?_ NB305_310.out _; (with_reducible repeat (first | refine blk_drewN ?_ _ | refine blk_drew ?_ | refine blk_alloc ?_ _)); refine blk_far ?_ NB305_310.out _; (with_reducible repeat (first | refine blk_drewN ?_ _ | refine blk_drew ?_ | refine blk_alloc ?_ _)); refine blk_far ?_ NB305_310.out _; (with_reducible repeat (first | refine blk_drewN ?_ _ | refine blk_drew ?_ | refine blk_alloc ?_ _)); exact BK305.out) : Q := g
theorem z64_11 {Q : Prop} (g : Q := by repeat (first | (with_reducible first | exact HB.out | apply below_alloc | apply pw_below_drewN | apply below_drew1 | refine below_set ?_ GE305.out | refine below_set ?_ GE306.out) | exact HB.out)) : Q := g
theorem z64_12 {Q : Prop} (g : Q := by (with_reducible repeat (first | refine blk_drewN ?_ _ | refine blk_drew ?_ | refine blk_alloc ?_ _)); refine blk_put (cs := #[.int .i64 0, .int .i64 0, .int .i64 0, .int .i64 0, .int .i64 0, .int .i64 0]) ?_ 5 _ rfl; (with_reducible repeat (first | refine blk_drewN ?_ _ | refine blk_drew ?_ | refine blk_alloc ?_ _)); refine blk_put (cs := #[.int .i64 0, .int .i64 0, .int .i64 0, .int .i64 0, .int .i64 0, .int .i64 0]) ?_ 4 _ rfl; (with_reducible repeat (first | refine blk_drewN ?_ _ | refine blk_drew ?_ | refine blk_alloc ?_ _)); refine blk_put (cs := #[.int .i64 0, .int .i64 0, .int .i64 0, .int .i64 0, .int .i64 0, .int .i64 0]) ?_ 3 _ rfl; (with_reducible repeat (first | refine blk_drewN ?_ _ | refine blk_drew ?_ | refine blk_alloc ?_ _)); refine blk_put (cs := #[.int .i64 0, .int .i64 0, .int .i64 0, .int .i64 0, .int .i64 0, .int .i64 0]) ?_ 2 _ rfl; (with_reducible repeat (first | refine blk_drewN ?_ _ | refine blk_drew ?_ | refine blk_alloc ?_ _)); refine blk_put (cs := #[.int .i64 0, .int .i64 0, .int .i64 0, .int .i64 0, .int .i64 0, .int .i64 0]) ?_ 1 _ rfl; (with_reducible repeat (first | refine blk_drewN ?_ _ | refine blk_drew ?_ | refine blk_alloc ?_ _)); refine blk_put (cs := #[.int .i64 0, .int .i64 0, .int .i64 0, .int .i64 0, .int .i64 0, .int .i64 0]) ?_ 0 _ rfl; (with_reducible repeat (first | refine blk_drewN ?_ _ | refine blk_drew ?_ | refine blk_alloc ?_ _)); exact BK307.out) : Q := g
theorem z64_13 {Q : Prop} (g : Q := by rw [hg]; exact Nat.ne_of_lt (blk_lt (g := gb307) (o := .cells #[.int .i64 0, .int .i64 0, .int .i64 0, .int .i64 0, .int .i64 0, .int .i64 0] 83 (0, 0)) (pB64_ BK307.out))) : Q := g
theorem z64_14 {Q : Prop} (g : Q := by rw [hg]; exact Nat.ne_of_gt (blk_lt (g := gb307) (o := .cells #[.int .i64 0, .int .i64 0, .int .i64 0, .int .i64 0, .int .i64 0, .int .i64 0] 83 (0, 0)) (pB64_ BK307.out))) : Q := g
theorem z64_15 {Q : Prop} (g : Q := by repeat (first | (with_reducible first | exact HB.out | apply below_alloc | apply pw_below_drewN | apply below_drew1 | refine below_set ?_ GE305.out) | exact HB.out)) : Q := g
theorem z64_16 {Q : Prop} (g : Q := by repeat (first | (with_reducible first | exact HB.out | apply below_alloc | apply pw_below_drewN | apply below_drew1) | exact HB.out)) : Q := g
theorem z64_17 {Q : Prop} (g : Q := by simp only [putAll, Act.put, List.setIfInBounds_toArray, List.set_cons_zero, List.set_cons_succ]) : Q := g
theorem z64_18 {Q : Prop} (g : Q := by rw [hg]; exact (below_size z64_0)) : Q := g
theorem z64_19 {Q : Prop} (g : Q := by kernel_rfl) : Q := g
set_option maxHeartbeats 8000000 in
set_option maxRecDepth 100000 in
theorem spec_HealthFact.calls (k : Nat) (a0_0 : Int) (A0_1 : Option Addr) (c0_1 : Nat) (l0_1 : List Int) (A0_2 : Option Addr) (c0_2 : Nat) (l0_2 : List Int) (A0_3 : Option Addr) (c0_3 : Nat) (l0_3 : List Int) (a1 : Int) (a2_0 : Int) (a2_1 : Int) (a2_2 : Int) (a2_3 : Int) (a2_4 : Int) (A3 : Option Addr) (c3 : Nat) (l3 : List Int) (a4 : Int) (a5 : Int) (a6 : Int) (r1 : Int) (r2 : Int) (r3 : Int) (r4 : Int) (r5 : Int) (r6 : Int) (r7 : Bool) (w : World) (hr0_1 : Kd.C (Kd.int .i64) w A0_1 l0_1.length l0_1) (hc0_1 : l0_1.length ≤ c0_1) (hr0_2 : Kd.C (Kd.int .i64) w A0_2 l0_2.length l0_2) (hc0_2 : l0_2.length ≤ c0_2) (hr0_3 : Kd.C (Kd.int .i64) w A0_3 l0_3.length l0_3) (hc0_3 : l0_3.length ≤ c0_3) (hr3 : Kd.C (Kd.int .i64) w A3 l3.length l3) (hc3 : l3.length ≤ c3) (h : spec_HealthFact.f k a0_0 l0_1 l0_2 l0_3 a1 a2_0 a2_1 a2_2 a2_3 a2_4 l3 a4 a5 a6 = some (r1, r2, r3, r4, r5, r6, r7)) :
    Calls Try.prog 64 #[.agg #[.int .i64 a0_0, .slice A0_1 l0_1.length c0_1, .slice A0_2 l0_2.length c0_2, .slice A0_3 l0_3.length c0_3], .int .i64 a1, .agg #[.int .i64 a2_0, .int .i64 a2_1, .int .i64 a2_2, .int .i64 a2_3, .int .i64 a2_4], .slice A3 l3.length c3, .int .i64 a4, .int .i64 a5, .int .i64 a6] w fun e w' => e = .returned (.tuple #[.agg #[.int .i64 r1, .int .i64 r2, .int .i64 r3, .int .i64 r4, .int .i64 r5, .int .i64 r6], .bool r7]) ∧ Below w.heap.size w w' := by
  have hu33 := Try.underlying33
  have hu45 := Try.underlying45
  have hu83 := Try.underlying83
  have HR0_1 := Aside0.mk hr0_1
  have HC0_1 := Aside0.mk hc0_1
  clear hr0_1 hc0_1
  have HR0_2 := Aside0.mk hr0_2
  have HC0_2 := Aside0.mk hc0_2
  clear hr0_2 hc0_2
  have HR0_3 := Aside0.mk hr0_3
  have HC0_3 := Aside0.mk hc0_3
  clear hr0_3 hc0_3
  have HR3 := Aside0.mk hr3
  have HC3 := Aside0.mk hc3
  clear hr3 hc3
  have HB := Aside0.mk (Below.refl w.heap.size w)
  have H : ((spec_AppraiseLog.f k a0_0 l0_1 l0_2 l0_3 l3).bind fun t308 => ((spec_EndOf.f a5 a6).bind fun t309 => ((spec_CheckQuote.f k a1 a2_0 a2_1 a2_2 a2_3 a2_4 l3 a4 a5 5).bind fun t311 => (if t311 = true then ((spec_IsFact.f 3 a2_0 t308 1 a5 t309).bind fun t312 => (if t312 = true then (some (3, a2_0, t308, 1, a5, t309, true)) else (some (0, 0, 0, 0, 0, 0, false)))) else (some (0, 0, 0, 0, 0, 0, false)))))) = some (r1, r2, r3, r4, r5, r6, r7) := h
  clear h
  replace H := Option.bind_eq_some_iff.mp H
  obtain ⟨t308, A80, H⟩ := H
  replace H : ((spec_EndOf.f a5 a6).bind fun t309 => ((spec_CheckQuote.f k a1 a2_0 a2_1 a2_2 a2_3 a2_4 l3 a4 a5 5).bind fun t311 => (if t311 = true then ((spec_IsFact.f 3 a2_0 t308 1 a5 t309).bind fun t312 => (if t312 = true then (some (3, a2_0, t308, 1, a5, t309, true)) else (some (0, 0, 0, 0, 0, 0, false)))) else (some (0, 0, 0, 0, 0, 0, false))))) = some (r1, r2, r3, r4, r5, r6, r7) := H
  have A8 := Aside0.mk A80
  clear A80
  replace H := Option.bind_eq_some_iff.mp H
  obtain ⟨t309, A90, H⟩ := H
  replace H : ((spec_CheckQuote.f k a1 a2_0 a2_1 a2_2 a2_3 a2_4 l3 a4 a5 5).bind fun t311 => (if t311 = true then ((spec_IsFact.f 3 a2_0 t308 1 a5 t309).bind fun t312 => (if t312 = true then (some (3, a2_0, t308, 1, a5, t309, true)) else (some (0, 0, 0, 0, 0, 0, false)))) else (some (0, 0, 0, 0, 0, 0, false)))) = some (r1, r2, r3, r4, r5, r6, r7) := H
  have A9 := Aside0.mk A90
  clear A90
  replace H := Option.bind_eq_some_iff.mp H
  obtain ⟨t311, A100, H⟩ := H
  replace H : (if t311 = true then ((spec_IsFact.f 3 a2_0 t308 1 a5 t309).bind fun t312 => (if t312 = true then (some (3, a2_0, t308, 1, a5, t309, true)) else (some (0, 0, 0, 0, 0, 0, false)))) else (some (0, 0, 0, 0, 0, 0, false))) = some (r1, r2, r3, r4, r5, r6, r7) := H
  have A10 := Aside0.mk A100
  clear A100
  by_cases c11 : t311 = true
  · subst c11
    have H1 : ((spec_IsFact.f 3 a2_0 t308 1 a5 t309).bind fun t312 => (if t312 = true then (some (3, a2_0, t308, 1, a5, t309, true)) else (some (0, 0, 0, 0, 0, 0, false)))) = some (r1, r2, r3, r4, r5, r6, r7) := by rw [if_pos rfl] at H; exact H
    clear H
    have H := H1
    clear H1
    replace H := Option.bind_eq_some_iff.mp H
    obtain ⟨t312, A120, H⟩ := H
    replace H : (if t312 = true then (some (3, a2_0, t308, 1, a5, t309, true)) else (some (0, 0, 0, 0, 0, 0, false))) = some (r1, r2, r3, r4, r5, r6, r7) := H
    have A12 := Aside0.mk A120
    clear A120
    by_cases c13 : t312 = true
    · subst c13
      have H1 : (some (3, a2_0, t308, 1, a5, t309, true)) = some (r1, r2, r3, r4, r5, r6, r7) := by rw [if_pos rfl] at H; exact H
      clear H
      have H := H1
      clear H1
      simp only [Option.some.injEq, Prod.mk.injEq] at H
      obtain ⟨rfl, rfl, rfl, rfl, rfl, rfl, rfl⟩ := H
      go_enter Try.func64, Try.ntmps64
      try go_wp2_with (first | ((with_reducible refine gate_dst (N := 7) rfl ?_); refine box_event ?hg (N := 7) ?hd (cs := #[.int .i64 a0_0, .slice A0_1 l0_1.length c0_1, .slice A0_2 l0_2.length c0_2, .slice A0_3 l0_3.length c0_3]) (t := 33) ?hr ?_; (case hd => rfl); (case hg => rfl); (case hr => first | (go_simp; done) | (go_simp; rfl)); intro gb305 hg w14 hbox hb; have n0_ := Aside0.mk (below_step z64_16 hb); have n1_ := Aside0.mk (hbox); have n2_ := Aside0.mk ((by rw [hg]; exact (below_size z64_16) : w.heap.size ≤ gb305)); have n3_ := Aside0.mk ((by rw [hg]; exact (below_size z64_16) : w.heap.size ≤ gb305)); clear HB; have HB := n0_; have BK305 := n1_; have GW305 := n2_; have GE305 := n3_; clear n0_ n1_ n2_ n3_; clear hb hbox hg) | ((with_reducible refine gate_dst (N := 9) rfl ?_); refine box_event ?hg (N := 9) ?hd (cs := #[.int .i64 a2_0, .int .i64 a2_1, .int .i64 a2_2, .int .i64 a2_3, .int .i64 a2_4]) (t := 45) ?hr ?_; (case hd => rfl); (case hg => rfl); (case hr => first | (go_simp; done) | (go_simp; rfl)); intro gb306 hg w15 hbox hb; have n0_ := Aside0.mk (blk_below (g := gb305) (o := .cells #[.int .i64 a0_0, .slice A0_1 l0_1.length c0_1, .slice A0_2 l0_2.length c0_2, .slice A0_3 l0_3.length c0_3] 33 (0, 0)) (pB64_ BK305.out) hb); have n1_ := Aside0.mk (below_step z64_15 hb); have n2_ := Aside0.mk (hbox); have n3_ := Aside0.mk ((by rw [hg]; exact (below_size z64_15) : w.heap.size ≤ gb306)); have n4_ := Aside0.mk ((by rw [hg]; exact (below_size z64_15) : w.heap.size ≤ gb306)); have n5_ := Aside0.mk ((z64_3 : gb305 ≠ gb306)); have n6_ := Aside0.mk ((z64_4 : gb306 ≠ gb305)); clear BK305; clear HB; have BK305 := n0_; have HB := n1_; have BK306 := n2_; have GW306 := n3_; have GE306 := n4_; have NB305_306 := n5_; have NB306_305 := n6_; clear n0_ n1_ n2_ n3_ n4_ n5_ n6_; clear hb hbox hg) | ((with_reducible refine gate_dst (N := 14) rfl ?_); refine box_event ?hg (N := 14) ?hd (cs := #[.int .i64 0, .int .i64 0, .int .i64 0, .int .i64 0, .int .i64 0, .int .i64 0]) (t := 83) ?hr ?_; (case hd => rfl); (case hg => rfl); (case hr => first | (go_simp; done) | (go_simp; rfl)); intro gb307 hg w16 hbox hb; have n0_ := Aside0.mk (blk_below (g := gb305) (o := .cells #[.int .i64 a0_0, .slice A0_1 l0_1.length c0_1, .slice A0_2 l0_2.length c0_2, .slice A0_3 l0_3.length c0_3] 33 (0, 0)) (pB64_ BK305.out) hb); have n1_ := Aside0.mk (blk_below (g := gb306) (o := .cells #[.int .i64 a2_0, .int .i64 a2_1, .int .i64 a2_2, .int .i64 a2_3, .int .i64 a2_4] 45 (0, 0)) (pB64_ BK306.out) hb); have n2_ := Aside0.mk (below_step z64_11 hb); have n3_ := Aside0.mk (hbox); have n4_ := Aside0.mk ((by rw [hg]; exact (below_size z64_11) : w.heap.size ≤ gb307)); have n5_ := Aside0.mk ((by rw [hg]; exact (below_size z64_11) : w.heap.size ≤ gb307)); have n6_ := Aside0.mk ((z64_3 : gb305 ≠ gb307)); have n7_ := Aside0.mk ((z64_4 : gb307 ≠ gb305)); have n8_ := Aside0.mk ((z64_6 : gb306 ≠ gb307)); have n9_ := Aside0.mk ((z64_7 : gb307 ≠ gb306)); clear BK305; clear BK306; clear HB; have BK305 := n0_; have BK306 := n1_; have HB := n2_; have BK307 := n3_; have GW307 := n4_; have GE307 := n5_; have NB305_307 := n6_; have NB307_305 := n7_; have NB306_307 := n8_; have NB307_306 := n9_; clear n0_ n1_ n2_ n3_ n4_ n5_ n6_ n7_ n8_ n9_; clear hb hbox hg))
      have n0_ := Aside0.mk (blk_drew BK305.out)
      have n1_ := Aside0.mk (blk_drew BK306.out)
      have n2_ := Aside0.mk (blk_drew BK307.out)
      have n3_ := Aside0.mk (below_drew1 HB.out)
      clear BK305
      clear BK306
      clear BK307
      clear HB
      have BK305 := n0_
      have BK306 := n1_
      have BK307 := n2_
      have HB := n3_
      clear n0_ n1_ n2_ n3_
      refine start_ (n := 12) (S := fun w' => w'.cell? ⟨gb306, 0, none⟩ = some (.int .i64 a2_0) ∧ w'.cell? ⟨gb306, 1, none⟩ = some (.int .i64 a2_1) ∧ w'.cell? ⟨gb306, 2, none⟩ = some (.int .i64 a2_2) ∧ w'.cell? ⟨gb306, 3, none⟩ = some (.int .i64 a2_3) ∧ w'.cell? ⟨gb306, 4, none⟩ = some (.int .i64 a2_4) ∧ w'.cell? ⟨gb305, 0, none⟩ = some (.int .i64 a0_0) ∧ w'.cell? ⟨gb305, 1, none⟩ = some (.slice A0_1 l0_1.length c0_1) ∧ w'.cell? ⟨gb305, 2, none⟩ = some (.slice A0_2 l0_2.length c0_2) ∧ w'.cell? ⟨gb305, 3, none⟩ = some (.slice A0_3 l0_3.length c0_3)) (ds := []) #[false, false, false, false, false, false, false, false, false, false, false, false] z64_19 rfl rfl ⟨(blk_cell BK306.out 0).trans rfl, (blk_cell BK306.out 1).trans rfl, (blk_cell BK306.out 2).trans rfl, (blk_cell BK306.out 3).trans rfl, (blk_cell BK306.out 4).trans rfl, (blk_cell BK305.out 0).trans rfl, (blk_cell BK305.out 1).trans rfl, (blk_cell BK305.out 2).trans rfl, (blk_cell BK305.out 3).trans rfl⟩ (fun hHeld => ?_); refine with_tabW spec_HealthFact.tab1 spec_HealthFact.bits1 (fun HT_ HW_ => ?_)
      generalize w16.drew = w17 at BK305 BK306 BK307 HB hHeld ⊢
      refine pure_ (i := 0) (N := some 17) (v := ?_) (a' := ?_) #[true, false, false, false, false, false, false, false, false, false, false, false] rfl rfl (any_of HT_.out z64_19) (fun _ _ _ h => h) (Or.inl ⟨by rfl, ?_⟩) ?_ ?_
      rotate_left
      · intro w'
        go_simp
        with_reducible rfl
      rotate_left
      · simp only [Act.put, List.setIfInBounds_toArray, List.set_cons_zero, List.set_cons_succ, i64_w, i32_w]
        rfl
      refine pure_ (i := 3) (N := some 20) (v := ?_) (a' := ?_) #[true, false, false, true, false, false, false, false, false, false, false, false] rfl rfl (any_of HT_.out z64_19) (fun _ _ _ h => h) (Or.inl ⟨by rfl, ?_⟩) ?_ ?_
      rotate_left
      · intro w'
        go_simp
        with_reducible rfl
      rotate_left
      · simp only [Act.put, List.setIfInBounds_toArray, List.set_cons_zero, List.set_cons_succ, i64_w, i32_w]
        rfl
      refine pure_ (i := 5) (N := some 22) (v := ?_) (a' := ?_) #[true, false, false, true, false, true, false, false, false, false, false, false] rfl rfl (any_of HT_.out z64_19) (fun _ _ _ h => h) (Or.inl ⟨by rfl, ?_⟩) ?_ ?_
      rotate_left
      · intro w'
        go_simp
        with_reducible rfl
      rotate_left
      · simp only [Act.put, List.setIfInBounds_toArray, List.set_cons_zero, List.set_cons_succ, i64_w, i32_w]
        rfl
      refine pure_ (i := 6) (N := some 23) (v := ?_) (a' := ?_) #[true, false, false, true, false, true, true, false, false, false, false, false] rfl rfl (any_of HT_.out z64_19) (fun _ _ _ h => h) (Or.inl ⟨by rfl, ?_⟩) ?_ ?_
      rotate_left
      · intro w'
        go_simp
        with_reducible rfl
      rotate_left
      · simp only [Act.put, List.setIfInBounds_toArray, List.set_cons_zero, List.set_cons_succ, i64_w, i32_w]
        rfl
      refine pure_ (i := 7) (N := some 24) (v := ?_) (a' := ?_) #[true, false, false, true, false, true, true, true, false, false, false, false] rfl rfl (any_of HT_.out z64_19) (fun _ _ _ h => h) (Or.inl ⟨by rfl, ?_⟩) ?_ ?_
      rotate_left
      · intro w'
        go_simp
        with_reducible rfl
      rotate_left
      · simp only [Act.put, List.setIfInBounds_toArray, List.set_cons_zero, List.set_cons_succ, i64_w, i32_w]
        rfl
      refine take_ (i := 1) (N := some 18) (v := ?_) (a' := ?_) #[true, true, false, true, false, true, true, true, false, false, false, false] rfl rfl (take_ofW HT_.out HW_.out z64_19) (fun _ _ _ h => h) (Or.inl ⟨by rfl, ?_⟩) hHeld ?_ ?_
      rotate_left
      · rintro w' ⟨s0, s1, s2, s3, s4, s5, s6, s7, s8⟩
        go_simp
        with_reducible rfl
      rotate_left
      · simp only [Act.put, List.setIfInBounds_toArray, List.set_cons_zero, List.set_cons_succ, i64_w, i32_w]
        rfl
      refine take_ (i := 2) (N := some 19) (v := ?_) (a' := ?_) #[true, true, true, true, false, true, true, true, false, false, false, false] rfl rfl (take_ofW HT_.out HW_.out z64_19) (fun _ _ _ h => h) (Or.inl ⟨by rfl, ?_⟩) hHeld ?_ ?_
      rotate_left
      · rintro w' ⟨s0, s1, s2, s3, s4, s5, s6, s7, s8⟩
        go_simp
        with_reducible rfl
      rotate_left
      · simp only [Act.put, List.setIfInBounds_toArray, List.set_cons_zero, List.set_cons_succ, i64_w, i32_w]
        rfl
      refine join_ (σ := Nat) 1 #[true, true, true, true, true, true, true, true, true, true, true, false] (fun s_ => [(21, .int .i64 t308), (25, .int .i64 t309), (16, .pointer (some ⟨s_, 0, none⟩)), (26, .agg #[.int .i64 3, .int .i64 a2_0, .int .i64 t308, .int .i64 1, .int .i64 a5, .int .i64 t309])]) (fun s_ w' => (w'.cell? ⟨gb306, 0, none⟩ = some (.int .i64 a2_0) ∧ w'.cell? ⟨gb306, 1, none⟩ = some (.int .i64 a2_1) ∧ w'.cell? ⟨gb306, 2, none⟩ = some (.int .i64 a2_2) ∧ w'.cell? ⟨gb306, 3, none⟩ = some (.int .i64 a2_3) ∧ w'.cell? ⟨gb306, 4, none⟩ = some (.int .i64 a2_4) ∧ w'.cell? ⟨gb305, 0, none⟩ = some (.int .i64 a0_0) ∧ w'.cell? ⟨gb305, 1, none⟩ = some (.slice A0_1 l0_1.length c0_1) ∧ w'.cell? ⟨gb305, 2, none⟩ = some (.slice A0_2 l0_2.length c0_2) ∧ w'.cell? ⟨gb305, 3, none⟩ = some (.slice A0_3 l0_3.length c0_3)) ∧ (w'.heap[gb305]? = some (.cells #[.int .i64 a0_0, .slice A0_1 l0_1.length c0_1, .slice A0_2 l0_2.length c0_2, .slice A0_3 l0_3.length c0_3] 33 (0, 0))) ∧ (w'.heap[gb306]? = some (.cells #[.int .i64 a2_0, .int .i64 a2_1, .int .i64 a2_2, .int .i64 a2_3, .int .i64 a2_4] 45 (0, 0))) ∧ (w'.heap[gb307]? = some (.cells #[.int .i64 0, .int .i64 0, .int .i64 0, .int .i64 0, .int .i64 0, .int .i64 0] 83 (0, 0))) ∧ (w'.heap[s_]? = some (.cells #[.int .i64 0, .int .i64 0, .int .i64 0, .int .i64 0, .int .i64 0, .int .i64 0] 83 (0, 0))) ∧ (w.heap.size ≤ s_) ∧ (w.heap.size ≤ s_) ∧ (gb305 ≠ s_) ∧ (s_ ≠ gb305) ∧ (gb306 ≠ s_) ∧ (s_ ≠ gb306) ∧ (gb307 ≠ s_) ∧ (s_ ≠ gb307) ∧ (Below w.heap.size w w')) ?_ ?_
      rotate_left
      · intro hCont
        refine two_ (i := 4) (j := 10) (Ni := some 21) (Nj := some 16) #[true, true, true, true, true, true, true, true, false, false, false, false] #[true, true, true, true, false, true, true, true, false, false, true, false] rfl rfl rfl rfl (two_of HT_.out z64_19) (by decide) (by decide) (fun K hK => ?_) (fun K hK => ?_)
        · skip
          refine goes_ Try.func27 z64_19 rfl #[.agg #[.int .i64 a0_0, .slice A0_1 l0_1.length c0_1, .slice A0_2 l0_2.length c0_2, .slice A0_3 l0_3.length c0_3], .slice A3 l3.length c3] (by rfl) rfl rfl z64_5 ?_
          with_reducible refine (spec_AppraiseLog.calls k a0_0 _ _ l0_1 _ _ l0_2 _ _ l0_3 _ _ l3 t308 _ ?side1 ?side2 ?side3 ?side4 ?side5 ?side6 ?side7 ?side8 A8.out).mono ?_
          (case side1 => repeat (first | exact (Kd.C_below HR0_1.out HB.out) | (with_reducible refine Kd.C_alloc ?_ _) | (with_reducible refine Kd.C_drewN ?_ _) | (with_reducible refine Kd.C_drew ?_)))
          (case side2 => exact HC0_1.out)
          (case side3 => repeat (first | exact (Kd.C_below HR0_2.out HB.out) | (with_reducible refine Kd.C_alloc ?_ _) | (with_reducible refine Kd.C_drewN ?_ _) | (with_reducible refine Kd.C_drew ?_)))
          (case side4 => exact HC0_2.out)
          (case side5 => repeat (first | exact (Kd.C_below HR0_3.out HB.out) | (with_reducible refine Kd.C_alloc ?_ _) | (with_reducible refine Kd.C_drewN ?_ _) | (with_reducible refine Kd.C_drew ?_)))
          (case side6 => exact HC0_3.out)
          (case side7 => repeat (first | exact (Kd.C_below HR3.out HB.out) | (with_reducible refine Kd.C_alloc ?_ _) | (with_reducible refine Kd.C_drewN ?_ _) | (with_reducible refine Kd.C_drew ?_)))
          (case side8 => exact HC3.out)
          rintro e w18 ⟨rfl, hb⟩
          refine ⟨_, rfl, ?_⟩
          have n0_ := Aside0.mk (blk_below (g := gb305) (o := .cells #[.int .i64 a0_0, .slice A0_1 l0_1.length c0_1, .slice A0_2 l0_2.length c0_2, .slice A0_3 l0_3.length c0_3] 33 (0, 0)) (pB64_ BK305.out) hb)
          have n1_ := Aside0.mk (blk_below (g := gb306) (o := .cells #[.int .i64 a2_0, .int .i64 a2_1, .int .i64 a2_2, .int .i64 a2_3, .int .i64 a2_4] 45 (0, 0)) (pB64_ BK306.out) hb)
          have n2_ := Aside0.mk (blk_below (g := gb307) (o := .cells #[.int .i64 0, .int .i64 0, .int .i64 0, .int .i64 0, .int .i64 0, .int .i64 0] 83 (0, 0)) (pB64_ BK307.out) hb)
          have n3_ := Aside0.mk (below_step z64_0 hb)
          clear BK305
          clear BK306
          clear BK307
          clear HB
          have BK305 := n0_
          have BK306 := n1_
          have BK307 := n2_
          have HB := n3_
          clear n0_ n1_ n2_ n3_
          (try clear hb)
          (try clear hb2)
          (try clear hk)
          (try clear hi)
          refine hK.out _ _ ⟨(blk_cell BK306.out 0).trans rfl, (blk_cell BK306.out 1).trans rfl, (blk_cell BK306.out 2).trans rfl, (blk_cell BK306.out 3).trans rfl, (blk_cell BK306.out 4).trans rfl, (blk_cell BK305.out 0).trans rfl, (blk_cell BK305.out 1).trans rfl, (blk_cell BK305.out 2).trans rfl, (blk_cell BK305.out 3).trans rfl⟩ (fun hHeld => ?_)
          clear hK K
          refine norm_ (a' := ?_) ?_ ?_
          rotate_left
          · show Act.put _ (some 21) _ = _
            simp only [Act.put, List.setIfInBounds_toArray, List.set_cons_zero, List.set_cons_succ, i64_w, i32_w]
            rfl
          refine two_ (i := 8) (j := 10) (Ni := some 25) (Nj := some 16) #[true, true, true, true, true, true, true, true, true, false, false, false] #[true, true, true, true, true, true, true, true, false, false, true, false] rfl rfl rfl rfl (two_of HT_.out z64_19) (by decide) (by decide) (fun K hK => ?_) (fun K hK => ?_)
          · skip
            refine goes_ Try.func110 z64_19 rfl #[.int .i64 a5, .int .i64 a6] (by rfl) rfl rfl z64_5 ?_
            with_reducible refine (spec_EndOf.calls a5 a6 t309 _ A9.out).mono ?_
            rintro e w' ⟨rfl, ⟨nd, rfl⟩⟩
            refine ⟨_, rfl, ?_⟩
            refine hK.out _ _ ⟨(blk_cell BK306.out 0).trans rfl, (blk_cell BK306.out 1).trans rfl, (blk_cell BK306.out 2).trans rfl, (blk_cell BK306.out 3).trans rfl, (blk_cell BK306.out 4).trans rfl, (blk_cell BK305.out 0).trans rfl, (blk_cell BK305.out 1).trans rfl, (blk_cell BK305.out 2).trans rfl, (blk_cell BK305.out 3).trans rfl⟩ (fun hHeld => ?_)
            clear hK K
            refine norm_ (a' := ?_) ?_ ?_
            rotate_left
            · show Act.put _ (some 25) _ = _
              simp only [Act.put, List.setIfInBounds_toArray, List.set_cons_zero, List.set_cons_succ, i64_w, i32_w]
              rfl
            refine pure_ (i := 9) (N := some 26) (v := ?_) (a' := ?_) #[true, true, true, true, true, true, true, true, true, true, false, false] rfl rfl (any_of HT_.out z64_19) (fun _ _ _ h => h) (Or.inl ⟨by rfl, ?_⟩) ?_ ?_
            rotate_left
            · intro w'
              go_simp
              with_reducible rfl
            rotate_left
            · simp only [Act.put, List.setIfInBounds_toArray, List.set_cons_zero, List.set_cons_succ, i64_w, i32_w]
              rfl
            refine one_ (i := 10) (N := some 16) #[true, true, true, true, true, true, true, true, true, true, true, false] rfl rfl (one_of HT_.out z64_19) (by decide) (fun K hK => ?_)
            refine box_step ?hg (N := 16) ?hd (cs := #[.int .i64 0, .int .i64 0, .int .i64 0, .int .i64 0, .int .i64 0, .int .i64 0]) (t := 83) ?hr ?_; (case hd => rfl); (case hg => rfl); (case hr => first | (go_simp; done) | (go_simp; rfl))
            intro gb310 hg w19 hbox hb
            have n0_ := Aside0.mk (blk_below (g := gb305) (o := .cells #[.int .i64 a0_0, .slice A0_1 l0_1.length c0_1, .slice A0_2 l0_2.length c0_2, .slice A0_3 l0_3.length c0_3] 33 (0, 0)) (pB64_ BK305.out) hb)
            have n1_ := Aside0.mk (blk_below (g := gb306) (o := .cells #[.int .i64 a2_0, .int .i64 a2_1, .int .i64 a2_2, .int .i64 a2_3, .int .i64 a2_4] 45 (0, 0)) (pB64_ BK306.out) hb)
            have n2_ := Aside0.mk (blk_below (g := gb307) (o := .cells #[.int .i64 0, .int .i64 0, .int .i64 0, .int .i64 0, .int .i64 0, .int .i64 0] 83 (0, 0)) (pB64_ BK307.out) hb)
            have n3_ := Aside0.mk (below_step z64_0 hb)
            have n4_ := Aside0.mk (hbox)
            have n5_ := Aside0.mk ((z64_18 : w.heap.size ≤ gb310))
            have n6_ := Aside0.mk ((z64_18 : w.heap.size ≤ gb310))
            have n7_ := Aside0.mk ((z64_3 : gb305 ≠ gb310))
            have n8_ := Aside0.mk ((z64_4 : gb310 ≠ gb305))
            have n9_ := Aside0.mk ((z64_6 : gb306 ≠ gb310))
            have n10_ := Aside0.mk ((z64_7 : gb310 ≠ gb306))
            have n11_ := Aside0.mk ((z64_13 : gb307 ≠ gb310))
            have n12_ := Aside0.mk ((z64_14 : gb310 ≠ gb307))
            clear BK305
            clear BK306
            clear BK307
            clear HB
            have BK305 := n0_
            have BK306 := n1_
            have BK307 := n2_
            have HB := n3_
            have BK310 := n4_
            have GW310 := n5_
            have GE310 := n6_
            have NB305_310 := n7_
            have NB310_305 := n8_
            have NB306_310 := n9_
            have NB310_306 := n10_
            have NB307_310 := n11_
            have NB310_307 := n12_
            clear n0_ n1_ n2_ n3_ n4_ n5_ n6_ n7_ n8_ n9_ n10_ n11_ n12_
            clear hb hbox hg
            refine hK.out _ _ ⟨(blk_cell BK306.out 0).trans rfl, (blk_cell BK306.out 1).trans rfl, (blk_cell BK306.out 2).trans rfl, (blk_cell BK306.out 3).trans rfl, (blk_cell BK306.out 4).trans rfl, (blk_cell BK305.out 0).trans rfl, (blk_cell BK305.out 1).trans rfl, (blk_cell BK305.out 2).trans rfl, (blk_cell BK305.out 3).trans rfl⟩ (fun hHeld => ?_)
            clear hK K
            refine norm_ (a' := ?_) ?_ ?_
            rotate_left
            · show Act.put _ (some 16) _ = _
              simp only [Act.put, List.setIfInBounds_toArray, List.set_cons_zero, List.set_cons_succ, i64_w, i32_w]
              rfl
            exact norm_ z64_17 (hCont (gb310) _ ⟨hHeld, (pB64_ BK305.out), (pB64_ BK306.out), (pB64_ BK307.out), (pB64_ BK310.out), GW310.out, GE310.out, NB305_310.out, NB310_305.out, NB306_310.out, NB310_306.out, NB307_310.out, NB310_307.out, z64_1⟩)
          · skip
            refine box_step ?hg (N := 16) ?hd (cs := #[.int .i64 0, .int .i64 0, .int .i64 0, .int .i64 0, .int .i64 0, .int .i64 0]) (t := 83) ?hr ?_; (case hd => rfl); (case hg => rfl); (case hr => first | (go_simp; done) | (go_simp; rfl))
            intro gb310 hg w19 hbox hb
            have n0_ := Aside0.mk (blk_below (g := gb305) (o := .cells #[.int .i64 a0_0, .slice A0_1 l0_1.length c0_1, .slice A0_2 l0_2.length c0_2, .slice A0_3 l0_3.length c0_3] 33 (0, 0)) (pB64_ BK305.out) hb)
            have n1_ := Aside0.mk (blk_below (g := gb306) (o := .cells #[.int .i64 a2_0, .int .i64 a2_1, .int .i64 a2_2, .int .i64 a2_3, .int .i64 a2_4] 45 (0, 0)) (pB64_ BK306.out) hb)
            have n2_ := Aside0.mk (blk_below (g := gb307) (o := .cells #[.int .i64 0, .int .i64 0, .int .i64 0, .int .i64 0, .int .i64 0, .int .i64 0] 83 (0, 0)) (pB64_ BK307.out) hb)
            have n3_ := Aside0.mk (below_step z64_0 hb)
            have n4_ := Aside0.mk (hbox)
            have n5_ := Aside0.mk ((z64_18 : w.heap.size ≤ gb310))
            have n6_ := Aside0.mk ((z64_18 : w.heap.size ≤ gb310))
            have n7_ := Aside0.mk ((z64_3 : gb305 ≠ gb310))
            have n8_ := Aside0.mk ((z64_4 : gb310 ≠ gb305))
            have n9_ := Aside0.mk ((z64_6 : gb306 ≠ gb310))
            have n10_ := Aside0.mk ((z64_7 : gb310 ≠ gb306))
            have n11_ := Aside0.mk ((z64_13 : gb307 ≠ gb310))
            have n12_ := Aside0.mk ((z64_14 : gb310 ≠ gb307))
            clear BK305
            clear BK306
            clear BK307
            clear HB
            have BK305 := n0_
            have BK306 := n1_
            have BK307 := n2_
            have HB := n3_
            have BK310 := n4_
            have GW310 := n5_
            have GE310 := n6_
            have NB305_310 := n7_
            have NB310_305 := n8_
            have NB306_310 := n9_
            have NB310_306 := n10_
            have NB307_310 := n11_
            have NB310_307 := n12_
            clear n0_ n1_ n2_ n3_ n4_ n5_ n6_ n7_ n8_ n9_ n10_ n11_ n12_
            clear hb hbox hg
            refine hK.out _ _ ⟨(blk_cell BK306.out 0).trans rfl, (blk_cell BK306.out 1).trans rfl, (blk_cell BK306.out 2).trans rfl, (blk_cell BK306.out 3).trans rfl, (blk_cell BK306.out 4).trans rfl, (blk_cell BK305.out 0).trans rfl, (blk_cell BK305.out 1).trans rfl, (blk_cell BK305.out 2).trans rfl, (blk_cell BK305.out 3).trans rfl⟩ (fun hHeld => ?_)
            clear hK K
            refine norm_ (a' := ?_) ?_ ?_
            rotate_left
            · show Act.put _ (some 16) _ = _
              simp only [Act.put, List.setIfInBounds_toArray, List.set_cons_zero, List.set_cons_succ, i64_w, i32_w]
              rfl
            refine one_ (i := 8) (N := some 25) #[true, true, true, true, true, true, true, true, true, false, true, false] rfl rfl (one_of HT_.out z64_19) (by decide) (fun K hK => ?_)
            refine goes_ Try.func110 z64_19 rfl #[.int .i64 a5, .int .i64 a6] (by rfl) rfl rfl z64_5 ?_
            with_reducible refine (spec_EndOf.calls a5 a6 t309 _ A9.out).mono ?_
            rintro e w' ⟨rfl, ⟨nd, rfl⟩⟩
            refine ⟨_, rfl, ?_⟩
            refine hK.out _ _ ⟨(blk_cell BK306.out 0).trans rfl, (blk_cell BK306.out 1).trans rfl, (blk_cell BK306.out 2).trans rfl, (blk_cell BK306.out 3).trans rfl, (blk_cell BK306.out 4).trans rfl, (blk_cell BK305.out 0).trans rfl, (blk_cell BK305.out 1).trans rfl, (blk_cell BK305.out 2).trans rfl, (blk_cell BK305.out 3).trans rfl⟩ (fun hHeld => ?_)
            clear hK K
            refine norm_ (a' := ?_) ?_ ?_
            rotate_left
            · show Act.put _ (some 25) _ = _
              simp only [Act.put, List.setIfInBounds_toArray, List.set_cons_zero, List.set_cons_succ, i64_w, i32_w]
              rfl
            refine pure_ (i := 9) (N := some 26) (v := ?_) (a' := ?_) #[true, true, true, true, true, true, true, true, true, true, true, false] rfl rfl (any_of HT_.out z64_19) (fun _ _ _ h => h) (Or.inl ⟨by rfl, ?_⟩) ?_ ?_
            rotate_left
            · intro w'
              go_simp
              with_reducible rfl
            rotate_left
            · simp only [Act.put, List.setIfInBounds_toArray, List.set_cons_zero, List.set_cons_succ, i64_w, i32_w]
              rfl
            exact norm_ z64_17 (hCont (gb310) _ ⟨hHeld, (pB64_ BK305.out), (pB64_ BK306.out), (pB64_ BK307.out), (pB64_ BK310.out), GW310.out, GE310.out, NB305_310.out, NB310_305.out, NB306_310.out, NB310_306.out, NB307_310.out, NB310_307.out, z64_1⟩)
        · skip
          refine box_step ?hg (N := 16) ?hd (cs := #[.int .i64 0, .int .i64 0, .int .i64 0, .int .i64 0, .int .i64 0, .int .i64 0]) (t := 83) ?hr ?_; (case hd => rfl); (case hg => rfl); (case hr => first | (go_simp; done) | (go_simp; rfl))
          intro gb310 hg w18 hbox hb
          have n0_ := Aside0.mk (blk_below (g := gb305) (o := .cells #[.int .i64 a0_0, .slice A0_1 l0_1.length c0_1, .slice A0_2 l0_2.length c0_2, .slice A0_3 l0_3.length c0_3] 33 (0, 0)) (pB64_ BK305.out) hb)
          have n1_ := Aside0.mk (blk_below (g := gb306) (o := .cells #[.int .i64 a2_0, .int .i64 a2_1, .int .i64 a2_2, .int .i64 a2_3, .int .i64 a2_4] 45 (0, 0)) (pB64_ BK306.out) hb)
          have n2_ := Aside0.mk (blk_below (g := gb307) (o := .cells #[.int .i64 0, .int .i64 0, .int .i64 0, .int .i64 0, .int .i64 0, .int .i64 0] 83 (0, 0)) (pB64_ BK307.out) hb)
          have n3_ := Aside0.mk (below_step z64_0 hb)
          have n4_ := Aside0.mk (hbox)
          have n5_ := Aside0.mk ((z64_18 : w.heap.size ≤ gb310))
          have n6_ := Aside0.mk ((z64_18 : w.heap.size ≤ gb310))
          have n7_ := Aside0.mk ((z64_3 : gb305 ≠ gb310))
          have n8_ := Aside0.mk ((z64_4 : gb310 ≠ gb305))
          have n9_ := Aside0.mk ((z64_6 : gb306 ≠ gb310))
          have n10_ := Aside0.mk ((z64_7 : gb310 ≠ gb306))
          have n11_ := Aside0.mk ((z64_13 : gb307 ≠ gb310))
          have n12_ := Aside0.mk ((z64_14 : gb310 ≠ gb307))
          clear BK305
          clear BK306
          clear BK307
          clear HB
          have BK305 := n0_
          have BK306 := n1_
          have BK307 := n2_
          have HB := n3_
          have BK310 := n4_
          have GW310 := n5_
          have GE310 := n6_
          have NB305_310 := n7_
          have NB310_305 := n8_
          have NB306_310 := n9_
          have NB310_306 := n10_
          have NB307_310 := n11_
          have NB310_307 := n12_
          clear n0_ n1_ n2_ n3_ n4_ n5_ n6_ n7_ n8_ n9_ n10_ n11_ n12_
          clear hb hbox hg
          refine hK.out _ _ ⟨(blk_cell BK306.out 0).trans rfl, (blk_cell BK306.out 1).trans rfl, (blk_cell BK306.out 2).trans rfl, (blk_cell BK306.out 3).trans rfl, (blk_cell BK306.out 4).trans rfl, (blk_cell BK305.out 0).trans rfl, (blk_cell BK305.out 1).trans rfl, (blk_cell BK305.out 2).trans rfl, (blk_cell BK305.out 3).trans rfl⟩ (fun hHeld => ?_)
          clear hK K
          refine norm_ (a' := ?_) ?_ ?_
          rotate_left
          · show Act.put _ (some 16) _ = _
            simp only [Act.put, List.setIfInBounds_toArray, List.set_cons_zero, List.set_cons_succ, i64_w, i32_w]
            rfl
          refine one_ (i := 4) (N := some 21) #[true, true, true, true, true, true, true, true, false, false, true, false] rfl rfl (one_of HT_.out z64_19) (by decide) (fun K hK => ?_)
          refine goes_ Try.func27 z64_19 rfl #[.agg #[.int .i64 a0_0, .slice A0_1 l0_1.length c0_1, .slice A0_2 l0_2.length c0_2, .slice A0_3 l0_3.length c0_3], .slice A3 l3.length c3] (by rfl) rfl rfl z64_5 ?_
          with_reducible refine (spec_AppraiseLog.calls k a0_0 _ _ l0_1 _ _ l0_2 _ _ l0_3 _ _ l3 t308 _ ?side1 ?side2 ?side3 ?side4 ?side5 ?side6 ?side7 ?side8 A8.out).mono ?_
          (case side1 => repeat (first | exact (Kd.C_below HR0_1.out HB.out) | (with_reducible refine Kd.C_alloc ?_ _) | (with_reducible refine Kd.C_drewN ?_ _) | (with_reducible refine Kd.C_drew ?_)))
          (case side2 => exact HC0_1.out)
          (case side3 => repeat (first | exact (Kd.C_below HR0_2.out HB.out) | (with_reducible refine Kd.C_alloc ?_ _) | (with_reducible refine Kd.C_drewN ?_ _) | (with_reducible refine Kd.C_drew ?_)))
          (case side4 => exact HC0_2.out)
          (case side5 => repeat (first | exact (Kd.C_below HR0_3.out HB.out) | (with_reducible refine Kd.C_alloc ?_ _) | (with_reducible refine Kd.C_drewN ?_ _) | (with_reducible refine Kd.C_drew ?_)))
          (case side6 => exact HC0_3.out)
          (case side7 => repeat (first | exact (Kd.C_below HR3.out HB.out) | (with_reducible refine Kd.C_alloc ?_ _) | (with_reducible refine Kd.C_drewN ?_ _) | (with_reducible refine Kd.C_drew ?_)))
          (case side8 => exact HC3.out)
          rintro e w19 ⟨rfl, hb⟩
          refine ⟨_, rfl, ?_⟩
          have n0_ := Aside0.mk (blk_below (g := gb305) (o := .cells #[.int .i64 a0_0, .slice A0_1 l0_1.length c0_1, .slice A0_2 l0_2.length c0_2, .slice A0_3 l0_3.length c0_3] 33 (0, 0)) (pB64_ BK305.out) hb)
          have n1_ := Aside0.mk (blk_below (g := gb306) (o := .cells #[.int .i64 a2_0, .int .i64 a2_1, .int .i64 a2_2, .int .i64 a2_3, .int .i64 a2_4] 45 (0, 0)) (pB64_ BK306.out) hb)
          have n2_ := Aside0.mk (blk_below (g := gb307) (o := .cells #[.int .i64 0, .int .i64 0, .int .i64 0, .int .i64 0, .int .i64 0, .int .i64 0] 83 (0, 0)) (pB64_ BK307.out) hb)
          have n3_ := Aside0.mk (blk_below (g := gb310) (o := .cells #[.int .i64 0, .int .i64 0, .int .i64 0, .int .i64 0, .int .i64 0, .int .i64 0] 83 (0, 0)) (pB64_ BK310.out) hb)
          have n4_ := Aside0.mk (below_step z64_1 hb)
          clear BK305
          clear BK306
          clear BK307
          clear BK310
          clear HB
          have BK305 := n0_
          have BK306 := n1_
          have BK307 := n2_
          have BK310 := n3_
          have HB := n4_
          clear n0_ n1_ n2_ n3_ n4_
          (try clear hb)
          (try clear hb2)
          (try clear hk)
          (try clear hi)
          refine hK.out _ _ ⟨(blk_cell BK306.out 0).trans rfl, (blk_cell BK306.out 1).trans rfl, (blk_cell BK306.out 2).trans rfl, (blk_cell BK306.out 3).trans rfl, (blk_cell BK306.out 4).trans rfl, (blk_cell BK305.out 0).trans rfl, (blk_cell BK305.out 1).trans rfl, (blk_cell BK305.out 2).trans rfl, (blk_cell BK305.out 3).trans rfl⟩ (fun hHeld => ?_)
          clear hK K
          refine norm_ (a' := ?_) ?_ ?_
          rotate_left
          · show Act.put _ (some 21) _ = _
            simp only [Act.put, List.setIfInBounds_toArray, List.set_cons_zero, List.set_cons_succ, i64_w, i32_w]
            rfl
          refine one_ (i := 8) (N := some 25) #[true, true, true, true, true, true, true, true, true, false, true, false] rfl rfl (one_of HT_.out z64_19) (by decide) (fun K hK => ?_)
          refine goes_ Try.func110 z64_19 rfl #[.int .i64 a5, .int .i64 a6] (by rfl) rfl rfl z64_5 ?_
          with_reducible refine (spec_EndOf.calls a5 a6 t309 _ A9.out).mono ?_
          rintro e w' ⟨rfl, ⟨nd, rfl⟩⟩
          refine ⟨_, rfl, ?_⟩
          refine hK.out _ _ ⟨(blk_cell BK306.out 0).trans rfl, (blk_cell BK306.out 1).trans rfl, (blk_cell BK306.out 2).trans rfl, (blk_cell BK306.out 3).trans rfl, (blk_cell BK306.out 4).trans rfl, (blk_cell BK305.out 0).trans rfl, (blk_cell BK305.out 1).trans rfl, (blk_cell BK305.out 2).trans rfl, (blk_cell BK305.out 3).trans rfl⟩ (fun hHeld => ?_)
          clear hK K
          refine norm_ (a' := ?_) ?_ ?_
          rotate_left
          · show Act.put _ (some 25) _ = _
            simp only [Act.put, List.setIfInBounds_toArray, List.set_cons_zero, List.set_cons_succ, i64_w, i32_w]
            rfl
          refine pure_ (i := 9) (N := some 26) (v := ?_) (a' := ?_) #[true, true, true, true, true, true, true, true, true, true, true, false] rfl rfl (any_of HT_.out z64_19) (fun _ _ _ h => h) (Or.inl ⟨by rfl, ?_⟩) ?_ ?_
          rotate_left
          · intro w'
            go_simp
            with_reducible rfl
          rotate_left
          · simp only [Act.put, List.setIfInBounds_toArray, List.set_cons_zero, List.set_cons_succ, i64_w, i32_w]
            rfl
          exact norm_ z64_17 (hCont (gb310) _ ⟨hHeld, (pB64_ BK305.out), (pB64_ BK306.out), (pB64_ BK307.out), (pB64_ BK310.out), GW310.out, GE310.out, NB305_310.out, NB310_305.out, NB306_310.out, NB310_306.out, NB307_310.out, NB310_307.out, z64_1⟩)
      rintro gb310 w20 ⟨hS_, h0_, h1_, h2_, h3_, h4_, h5_, h6_, h7_, h8_, h9_, h10_, h11_, h12_⟩
      have n0_ : Aside0 (w20.heap[gb305]? = some (.cells #[.int .i64 a0_0, .slice A0_1 l0_1.length c0_1, .slice A0_2 l0_2.length c0_2, .slice A0_3 l0_3.length c0_3] 33 (0, 0))) := ⟨h0_⟩
      have n1_ : Aside0 (w20.heap[gb306]? = some (.cells #[.int .i64 a2_0, .int .i64 a2_1, .int .i64 a2_2, .int .i64 a2_3, .int .i64 a2_4] 45 (0, 0))) := ⟨h1_⟩
      have n2_ : Aside0 (w20.heap[gb307]? = some (.cells #[.int .i64 0, .int .i64 0, .int .i64 0, .int .i64 0, .int .i64 0, .int .i64 0] 83 (0, 0))) := ⟨h2_⟩
      have n3_ : Aside0 (w20.heap[gb310]? = some (.cells #[.int .i64 0, .int .i64 0, .int .i64 0, .int .i64 0, .int .i64 0, .int .i64 0] 83 (0, 0))) := ⟨h3_⟩
      have n4_ : Aside0 (w.heap.size ≤ gb310) := ⟨h4_⟩
      have n5_ : Aside0 (w.heap.size ≤ gb310) := ⟨h5_⟩
      have n6_ : Aside0 (gb305 ≠ gb310) := ⟨h6_⟩
      have n7_ : Aside0 (gb310 ≠ gb305) := ⟨h7_⟩
      have n8_ : Aside0 (gb306 ≠ gb310) := ⟨h8_⟩
      have n9_ : Aside0 (gb310 ≠ gb306) := ⟨h9_⟩
      have n10_ : Aside0 (gb307 ≠ gb310) := ⟨h10_⟩
      have n11_ : Aside0 (gb310 ≠ gb307) := ⟨h11_⟩
      have n12_ : Aside0 (Below w.heap.size w w20) := ⟨h12_⟩
      clear BK305
      clear BK306
      clear BK307
      clear HB
      clear h0_ h1_ h2_ h3_ h4_ h5_ h6_ h7_ h8_ h9_ h10_ h11_ h12_
      have BK305 := n0_
      have BK306 := n1_
      have BK307 := n2_
      have BK310 := n3_
      have GW310 := n4_
      have GE310 := n5_
      have NB305_310 := n6_
      have NB310_305 := n7_
      have NB306_310 := n8_
      have NB310_306 := n9_
      have NB307_310 := n10_
      have NB310_307 := n11_
      have HB := n12_
      clear n0_ n1_ n2_ n3_ n4_ n5_ n6_ n7_ n8_ n9_ n10_ n11_ n12_
      have hHeld : w20.cell? ⟨gb306, 0, none⟩ = some (.int .i64 a2_0) ∧ w20.cell? ⟨gb306, 1, none⟩ = some (.int .i64 a2_1) ∧ w20.cell? ⟨gb306, 2, none⟩ = some (.int .i64 a2_2) ∧ w20.cell? ⟨gb306, 3, none⟩ = some (.int .i64 a2_3) ∧ w20.cell? ⟨gb306, 4, none⟩ = some (.int .i64 a2_4) ∧ w20.cell? ⟨gb305, 0, none⟩ = some (.int .i64 a0_0) ∧ w20.cell? ⟨gb305, 1, none⟩ = some (.slice A0_1 l0_1.length c0_1) ∧ w20.cell? ⟨gb305, 2, none⟩ = some (.slice A0_2 l0_2.length c0_2) ∧ w20.cell? ⟨gb305, 3, none⟩ = some (.slice A0_3 l0_3.length c0_3) := hS_
      refine norm_ (a' := ?_) ?_ ?_
      rotate_left
      · simp only [putAll, Act.put, List.setIfInBounds_toArray, List.set_cons_zero, List.set_cons_succ]
        rfl
      refine one_ (i := 11) (N := none) #[true, true, true, true, true, true, true, true, true, true, true, true] rfl rfl (one_of HT_.out z64_19) (by decide) (fun K hK => ?_)
      have hs21 : w20.cell? ⟨gb310, 0, none⟩ = some (.int .i64 0) := (blk_cell BK310.out 0).trans rfl
      have hfs21 := blk_frozen BK310.out 0
      have hns21_0 := NB305_310.out
      have hns21_1 := NB306_310.out
      have hns21_2 := NB307_310.out
      have hms21_0 := NB310_305.out
      have hms21_1 := NB310_306.out
      have hms21_2 := NB310_307.out
      have hs22 : w20.cell? ⟨gb310, 1, none⟩ = some (.int .i64 0) := (blk_cell BK310.out 1).trans rfl
      have hfs22 := blk_frozen BK310.out 1
      have hns22_0 := NB305_310.out
      have hns22_1 := NB306_310.out
      have hns22_2 := NB307_310.out
      have hms22_0 := NB310_305.out
      have hms22_1 := NB310_306.out
      have hms22_2 := NB310_307.out
      have hs23 : w20.cell? ⟨gb310, 2, none⟩ = some (.int .i64 0) := (blk_cell BK310.out 2).trans rfl
      have hfs23 := blk_frozen BK310.out 2
      have hns23_0 := NB305_310.out
      have hns23_1 := NB306_310.out
      have hns23_2 := NB307_310.out
      have hms23_0 := NB310_305.out
      have hms23_1 := NB310_306.out
      have hms23_2 := NB310_307.out
      have hs24 : w20.cell? ⟨gb310, 3, none⟩ = some (.int .i64 0) := (blk_cell BK310.out 3).trans rfl
      have hfs24 := blk_frozen BK310.out 3
      have hns24_0 := NB305_310.out
      have hns24_1 := NB306_310.out
      have hns24_2 := NB307_310.out
      have hms24_0 := NB310_305.out
      have hms24_1 := NB310_306.out
      have hms24_2 := NB310_307.out
      have hs25 : w20.cell? ⟨gb310, 4, none⟩ = some (.int .i64 0) := (blk_cell BK310.out 4).trans rfl
      have hfs25 := blk_frozen BK310.out 4
      have hns25_0 := NB305_310.out
      have hns25_1 := NB306_310.out
      have hns25_2 := NB307_310.out
      have hms25_0 := NB310_305.out
      have hms25_1 := NB310_306.out
      have hms25_2 := NB310_307.out
      have hs26 : w20.cell? ⟨gb310, 5, none⟩ = some (.int .i64 0) := (blk_cell BK310.out 5).trans rfl
      have hfs26 := blk_frozen BK310.out 5
      have hns26_0 := NB305_310.out
      have hns26_1 := NB306_310.out
      have hns26_2 := NB307_310.out
      have hms26_0 := NB310_305.out
      have hms26_1 := NB310_306.out
      have hms26_2 := NB310_307.out
      refine skip_ (w1 := ?_) (by rfl) rfl ?_ ?_
      rotate_left
      · go_simp
        rfl
      refine hK.out _ _ ⟨((cell_far (p := ⟨gb310, _, none⟩) NB306_310.out _).trans (((cell_far (p := ⟨gb310, _, none⟩) NB306_310.out _).trans (((cell_far (p := ⟨gb310, _, none⟩) NB306_310.out _).trans (((cell_far (p := ⟨gb310, _, none⟩) NB306_310.out _).trans (((cell_far (p := ⟨gb310, _, none⟩) NB306_310.out _).trans (((cell_far (p := ⟨gb310, _, none⟩) NB306_310.out _).trans (hHeld.1)))))))))))), ((cell_far (p := ⟨gb310, _, none⟩) NB306_310.out _).trans (((cell_far (p := ⟨gb310, _, none⟩) NB306_310.out _).trans (((cell_far (p := ⟨gb310, _, none⟩) NB306_310.out _).trans (((cell_far (p := ⟨gb310, _, none⟩) NB306_310.out _).trans (((cell_far (p := ⟨gb310, _, none⟩) NB306_310.out _).trans (((cell_far (p := ⟨gb310, _, none⟩) NB306_310.out _).trans (hHeld.2.1)))))))))))), ((cell_far (p := ⟨gb310, _, none⟩) NB306_310.out _).trans (((cell_far (p := ⟨gb310, _, none⟩) NB306_310.out _).trans (((cell_far (p := ⟨gb310, _, none⟩) NB306_310.out _).trans (((cell_far (p := ⟨gb310, _, none⟩) NB306_310.out _).trans (((cell_far (p := ⟨gb310, _, none⟩) NB306_310.out _).trans (((cell_far (p := ⟨gb310, _, none⟩) NB306_310.out _).trans (hHeld.2.2.1)))))))))))), ((cell_far (p := ⟨gb310, _, none⟩) NB306_310.out _).trans (((cell_far (p := ⟨gb310, _, none⟩) NB306_310.out _).trans (((cell_far (p := ⟨gb310, _, none⟩) NB306_310.out _).trans (((cell_far (p := ⟨gb310, _, none⟩) NB306_310.out _).trans (((cell_far (p := ⟨gb310, _, none⟩) NB306_310.out _).trans (((cell_far (p := ⟨gb310, _, none⟩) NB306_310.out _).trans (hHeld.2.2.2.1)))))))))))), ((cell_far (p := ⟨gb310, _, none⟩) NB306_310.out _).trans (((cell_far (p := ⟨gb310, _, none⟩) NB306_310.out _).trans (((cell_far (p := ⟨gb310, _, none⟩) NB306_310.out _).trans (((cell_far (p := ⟨gb310, _, none⟩) NB306_310.out _).trans (((cell_far (p := ⟨gb310, _, none⟩) NB306_310.out _).trans (((cell_far (p := ⟨gb310, _, none⟩) NB306_310.out _).trans (hHeld.2.2.2.2.1)))))))))))), ((cell_far (p := ⟨gb310, _, none⟩) NB305_310.out _).trans (((cell_far (p := ⟨gb310, _, none⟩) NB305_310.out _).trans (((cell_far (p := ⟨gb310, _, none⟩) NB305_310.out _).trans (((cell_far (p := ⟨gb310, _, none⟩) NB305_310.out _).trans (((cell_far (p := ⟨gb310, _, none⟩) NB305_310.out _).trans (((cell_far (p := ⟨gb310, _, none⟩) NB305_310.out _).trans (hHeld.2.2.2.2.2.1)))))))))))), ((cell_far (p := ⟨gb310, _, none⟩) NB305_310.out _).trans (((cell_far (p := ⟨gb310, _, none⟩) NB305_310.out _).trans (((cell_far (p := ⟨gb310, _, none⟩) NB305_310.out _).trans (((cell_far (p := ⟨gb310, _, none⟩) NB305_310.out _).trans (((cell_far (p := ⟨gb310, _, none⟩) NB305_310.out _).trans (((cell_far (p := ⟨gb310, _, none⟩) NB305_310.out _).trans (hHeld.2.2.2.2.2.2.1)))))))))))), ((cell_far (p := ⟨gb310, _, none⟩) NB305_310.out _).trans (((cell_far (p := ⟨gb310, _, none⟩) NB305_310.out _).trans (((cell_far (p := ⟨gb310, _, none⟩) NB305_310.out _).trans (((cell_far (p := ⟨gb310, _, none⟩) NB305_310.out _).trans (((cell_far (p := ⟨gb310, _, none⟩) NB305_310.out _).trans (((cell_far (p := ⟨gb310, _, none⟩) NB305_310.out _).trans (hHeld.2.2.2.2.2.2.2.1)))))))))))), ((cell_far (p := ⟨gb310, _, none⟩) NB305_310.out _).trans (((cell_far (p := ⟨gb310, _, none⟩) NB305_310.out _).trans (((cell_far (p := ⟨gb310, _, none⟩) NB305_310.out _).trans (((cell_far (p := ⟨gb310, _, none⟩) NB305_310.out _).trans (((cell_far (p := ⟨gb310, _, none⟩) NB305_310.out _).trans (((cell_far (p := ⟨gb310, _, none⟩) NB305_310.out _).trans (hHeld.2.2.2.2.2.2.2.2))))))))))))⟩ (fun hHeld => ?_)
      clear hK K
      refine done_ (done_of HT_.out z64_19) ?_
      have hnb27 := NB306_305.out
      have hnc27 := NB305_306.out
      have hnb28 := NB306_307.out
      have hnc28 := NB307_306.out
      have hnb29 := NB306_310.out
      have hnc29 := NB310_306.out
      have hcz30_0 : w20.cell? ⟨gb306, 0, none⟩ = some (.int .i64 a2_0) := (blk_cell BK306.out 0).trans rfl
      have hcz30_1 : w20.cell? ⟨gb306, 1, none⟩ = some (.int .i64 a2_1) := (blk_cell BK306.out 1).trans rfl
      have hcz30_2 : w20.cell? ⟨gb306, 2, none⟩ = some (.int .i64 a2_2) := (blk_cell BK306.out 2).trans rfl
      have hcz30_3 : w20.cell? ⟨gb306, 3, none⟩ = some (.int .i64 a2_3) := (blk_cell BK306.out 3).trans rfl
      have hcz30_4 : w20.cell? ⟨gb306, 4, none⟩ = some (.int .i64 a2_4) := (blk_cell BK306.out 4).trans rfl
      have hfz30_0 := blk_frozen BK306.out 0
      have hfz30_1 := blk_frozen BK306.out 1
      have hfz30_2 := blk_frozen BK306.out 2
      have hfz30_3 := blk_frozen BK306.out 3
      have hfz30_4 := blk_frozen BK306.out 4
      try go_wp2_with (first | ((with_reducible refine gate_callee (f := 36) rfl ?_); refine goesL_ (some 32) rfl rfl Try.func36 z64_19 rfl #[.int .i64 a1, .agg #[.int .i64 a2_0, .int .i64 a2_1, .int .i64 a2_2, .int .i64 a2_3, .int .i64 a2_4], .slice A3 l3.length c3, .int .i64 a4, .int .i64 a5, .int .i64 5] rfl z64_5 ?_; (with_reducible refine (spec_CheckQuote.calls k a1 a2_0 a2_1 a2_2 a2_3 a2_4 _ _ l3 a4 a5 5 true _ ?side1 ?side2 A10.out).mono ?_); (case side1 => exact Kd.C_below HR3.out z64_1); (case side2 => exact HC3.out); rintro e w31 ⟨rfl, hb⟩; refine ⟨_, rfl, ?_⟩; have n0_ := Aside0.mk (blk_below (g := gb305) (o := .cells #[.int .i64 a0_0, .slice A0_1 l0_1.length c0_1, .slice A0_2 l0_2.length c0_2, .slice A0_3 l0_3.length c0_3] 33 (0, 0)) z64_10 hb); have n1_ := Aside0.mk (blk_below (g := gb306) (o := .cells #[.int .i64 a2_0, .int .i64 a2_1, .int .i64 a2_2, .int .i64 a2_3, .int .i64 a2_4] 45 (0, 0)) z64_9 hb); have n2_ := Aside0.mk (blk_below (g := gb307) (o := .cells #[.int .i64 0, .int .i64 0, .int .i64 0, .int .i64 0, .int .i64 0, .int .i64 0] 83 (0, 0)) z64_8 hb); have n3_ := Aside0.mk (blk_below (g := gb310) (o := .cells #[.int .i64 3, .int .i64 a2_0, .int .i64 t308, .int .i64 1, .int .i64 a5, .int .i64 t309] 83 (0, 0)) z64_2 hb); have n4_ := Aside0.mk (below_step z64_1 hb); clear BK305; clear BK306; clear BK307; clear BK310; clear HB; have BK305 := n0_; have BK306 := n1_; have BK307 := n2_; have BK310 := n3_; have HB := n4_; clear n0_ n1_ n2_ n3_ n4_; (try clear hb); (try clear hb2); (try clear hk); (try clear hi); have hnb32 := NB310_305.out; have hnc32 := NB305_310.out; have hnb33 := NB310_307.out; have hnc33 := NB307_310.out; have hcz34_0 : w31.cell? ⟨gb310, 0, none⟩ = some (.int .i64 3) := (blk_cell BK310.out 0).trans rfl; have hcz34_1 : w31.cell? ⟨gb310, 1, none⟩ = some (.int .i64 a2_0) := (blk_cell BK310.out 1).trans rfl; have hcz34_2 : w31.cell? ⟨gb310, 2, none⟩ = some (.int .i64 t308) := (blk_cell BK310.out 2).trans rfl; have hcz34_3 : w31.cell? ⟨gb310, 3, none⟩ = some (.int .i64 1) := (blk_cell BK310.out 3).trans rfl; have hcz34_4 : w31.cell? ⟨gb310, 4, none⟩ = some (.int .i64 a5) := (blk_cell BK310.out 4).trans rfl; have hcz34_5 : w31.cell? ⟨gb310, 5, none⟩ = some (.int .i64 t309) := (blk_cell BK310.out 5).trans rfl; have hfz34_0 := blk_frozen BK310.out 0; have hfz34_1 := blk_frozen BK310.out 1; have hfz34_2 := blk_frozen BK310.out 2; have hfz34_3 := blk_frozen BK310.out 3; have hfz34_4 := blk_frozen BK310.out 4; have hfz34_5 := blk_frozen BK310.out 5) | (go_at_call 122; (with_reducible refine (spec_IsFact.calls 3 a2_0 t308 1 a5 t309 true _ A12.out).mono ?_); rintro e w35 ⟨rfl, hb⟩; have n0_ := Aside0.mk (blk_below (g := gb305) (o := .cells #[.int .i64 a0_0, .slice A0_1 l0_1.length c0_1, .slice A0_2 l0_2.length c0_2, .slice A0_3 l0_3.length c0_3] 33 (0, 0)) (pB64_ BK305.out) hb); have n1_ := Aside0.mk (blk_below (g := gb306) (o := .cells #[.int .i64 a2_0, .int .i64 a2_1, .int .i64 a2_2, .int .i64 a2_3, .int .i64 a2_4] 45 (0, 0)) (pB64_ BK306.out) hb); have n2_ := Aside0.mk (blk_below (g := gb307) (o := .cells #[.int .i64 0, .int .i64 0, .int .i64 0, .int .i64 0, .int .i64 0, .int .i64 0] 83 (0, 0)) (pB64_ BK307.out) hb); have n3_ := Aside0.mk (blk_below (g := gb310) (o := .cells #[.int .i64 3, .int .i64 a2_0, .int .i64 t308, .int .i64 1, .int .i64 a5, .int .i64 t309] 83 (0, 0)) (pB64_ BK310.out) hb); have n4_ := Aside0.mk (below_step z64_1 hb); clear BK305; clear BK306; clear BK307; clear BK310; clear HB; have BK305 := n0_; have BK306 := n1_; have BK307 := n2_; have BK310 := n3_; have HB := n4_; clear n0_ n1_ n2_ n3_ n4_; (try clear hb); (try clear hb2); (try clear hk); (try clear hi); have hcz36_0 : w35.cell? ⟨gb310, 0, none⟩ = some (.int .i64 3) := (blk_cell BK310.out 0).trans rfl; have hcz36_1 : w35.cell? ⟨gb310, 1, none⟩ = some (.int .i64 a2_0) := (blk_cell BK310.out 1).trans rfl; have hcz36_2 : w35.cell? ⟨gb310, 2, none⟩ = some (.int .i64 t308) := (blk_cell BK310.out 2).trans rfl; have hcz36_3 : w35.cell? ⟨gb310, 3, none⟩ = some (.int .i64 1) := (blk_cell BK310.out 3).trans rfl; have hcz36_4 : w35.cell? ⟨gb310, 4, none⟩ = some (.int .i64 a5) := (blk_cell BK310.out 4).trans rfl; have hcz36_5 : w35.cell? ⟨gb310, 5, none⟩ = some (.int .i64 t309) := (blk_cell BK310.out 5).trans rfl; have hfz36_0 := blk_frozen BK310.out 0; have hfz36_1 := blk_frozen BK310.out 1; have hfz36_2 := blk_frozen BK310.out 2; have hfz36_3 := blk_frozen BK310.out 3; have hfz36_4 := blk_frozen BK310.out 4; have hfz36_5 := blk_frozen BK310.out 5; have hnb37 := NB307_305.out; have hnc37 := NB305_307.out; have hcz38_0 : w35.cell? ⟨gb307, 0, none⟩ = some (.int .i64 0) := (blk_cell BK307.out 0).trans rfl; have hcz38_1 : w35.cell? ⟨gb307, 1, none⟩ = some (.int .i64 0) := (blk_cell BK307.out 1).trans rfl; have hcz38_2 : w35.cell? ⟨gb307, 2, none⟩ = some (.int .i64 0) := (blk_cell BK307.out 2).trans rfl; have hcz38_3 : w35.cell? ⟨gb307, 3, none⟩ = some (.int .i64 0) := (blk_cell BK307.out 3).trans rfl; have hcz38_4 : w35.cell? ⟨gb307, 4, none⟩ = some (.int .i64 0) := (blk_cell BK307.out 4).trans rfl; have hcz38_5 : w35.cell? ⟨gb307, 5, none⟩ = some (.int .i64 0) := (blk_cell BK307.out 5).trans rfl; have hfz38_0 := blk_frozen BK307.out 0; have hfz38_1 := blk_frozen BK307.out 1; have hfz38_2 := blk_frozen BK307.out 2; have hfz38_3 := blk_frozen BK307.out 3; have hfz38_4 := blk_frozen BK307.out 4; have hfz38_5 := blk_frozen BK307.out 5))
      refine bodyPost_ret (results_ct rfl _ _ gb307 83 #[.int .i64 3, .int .i64 a2_0, .int .i64 t308, .int .i64 1, .int .i64 a5, .int .i64 t309] (0, 0) _ rfl (by (with_reducible repeat (first | refine blk_drewN ?_ _ | refine blk_drew ?_ | refine blk_alloc ?_ _)); refine blk_put (cs := #[.int .i64 3, .int .i64 a2_0, .int .i64 t308, .int .i64 1, .int .i64 a5, .int .i64 0]) ?_ 5 _ rfl; (with_reducible repeat (first | refine blk_drewN ?_ _ | refine blk_drew ?_ | refine blk_alloc ?_ _)); refine blk_put (cs := #[.int .i64 3, .int .i64 a2_0, .int .i64 t308, .int .i64 1, .int .i64 0, .int .i64 0]) ?_ 4 _ rfl; (with_reducible repeat (first | refine blk_drewN ?_ _ | refine blk_drew ?_ | refine blk_alloc ?_ _)); refine blk_put (cs := #[.int .i64 3, .int .i64 a2_0, .int .i64 t308, .int .i64 0, .int .i64 0, .int .i64 0]) ?_ 3 _ rfl; (with_reducible repeat (first | refine blk_drewN ?_ _ | refine blk_drew ?_ | refine blk_alloc ?_ _)); refine blk_put (cs := #[.int .i64 3, .int .i64 a2_0, .int .i64 0, .int .i64 0, .int .i64 0, .int .i64 0]) ?_ 2 _ rfl; (with_reducible repeat (first | refine blk_drewN ?_ _ | refine blk_drew ?_ | refine blk_alloc ?_ _)); refine blk_put (cs := #[.int .i64 3, .int .i64 0, .int .i64 0, .int .i64 0, .int .i64 0, .int .i64 0]) ?_ 1 _ rfl; (with_reducible repeat (first | refine blk_drewN ?_ _ | refine blk_drew ?_ | refine blk_alloc ?_ _)); refine blk_put (cs := #[.int .i64 0, .int .i64 0, .int .i64 0, .int .i64 0, .int .i64 0, .int .i64 0]) ?_ 0 _ rfl; (with_reducible repeat (first | refine blk_drewN ?_ _ | refine blk_drew ?_ | refine blk_alloc ?_ _)); exact BK307.out) Try.underlying83 rfl z64_19) rfl ?_
      exact ⟨by first | rfl | (simp [errW_none, errW_some] <;> rfl) | (simp [*, errW_none, errW_some] <;> rfl), by repeat (first | (with_reducible first | exact HB.out | apply below_alloc | apply pw_below_drewN | apply below_drew1 | refine below_set ?_ GE305.out | refine below_set ?_ GE306.out | refine below_set ?_ GE307.out | refine below_set ?_ GE310.out) | exact HB.out)⟩
    · replace c13 := Bool.eq_false_iff.mpr c13
      subst c13
      have H1 : (some (0, 0, 0, 0, 0, 0, false)) = some (r1, r2, r3, r4, r5, r6, r7) := by rw [if_neg (show ¬ (false = true) by decide)] at H; exact H
      clear H
      have H := H1
      clear H1
      simp only [Option.some.injEq, Prod.mk.injEq] at H
      obtain ⟨rfl, rfl, rfl, rfl, rfl, rfl, rfl⟩ := H
      go_enter Try.func64, Try.ntmps64
      try go_wp2_with (first | ((with_reducible refine gate_dst (N := 7) rfl ?_); refine box_event ?hg (N := 7) ?hd (cs := #[.int .i64 a0_0, .slice A0_1 l0_1.length c0_1, .slice A0_2 l0_2.length c0_2, .slice A0_3 l0_3.length c0_3]) (t := 33) ?hr ?_; (case hd => rfl); (case hg => rfl); (case hr => first | (go_simp; done) | (go_simp; rfl)); intro gb305 hg w39 hbox hb; have n0_ := Aside0.mk (below_step z64_16 hb); have n1_ := Aside0.mk (hbox); have n2_ := Aside0.mk ((by rw [hg]; exact (below_size z64_16) : w.heap.size ≤ gb305)); have n3_ := Aside0.mk ((by rw [hg]; exact (below_size z64_16) : w.heap.size ≤ gb305)); clear HB; have HB := n0_; have BK305 := n1_; have GW305 := n2_; have GE305 := n3_; clear n0_ n1_ n2_ n3_; clear hb hbox hg) | ((with_reducible refine gate_dst (N := 9) rfl ?_); refine box_event ?hg (N := 9) ?hd (cs := #[.int .i64 a2_0, .int .i64 a2_1, .int .i64 a2_2, .int .i64 a2_3, .int .i64 a2_4]) (t := 45) ?hr ?_; (case hd => rfl); (case hg => rfl); (case hr => first | (go_simp; done) | (go_simp; rfl)); intro gb306 hg w40 hbox hb; have n0_ := Aside0.mk (blk_below (g := gb305) (o := .cells #[.int .i64 a0_0, .slice A0_1 l0_1.length c0_1, .slice A0_2 l0_2.length c0_2, .slice A0_3 l0_3.length c0_3] 33 (0, 0)) (pB64_ BK305.out) hb); have n1_ := Aside0.mk (below_step z64_15 hb); have n2_ := Aside0.mk (hbox); have n3_ := Aside0.mk ((by rw [hg]; exact (below_size z64_15) : w.heap.size ≤ gb306)); have n4_ := Aside0.mk ((by rw [hg]; exact (below_size z64_15) : w.heap.size ≤ gb306)); have n5_ := Aside0.mk ((z64_3 : gb305 ≠ gb306)); have n6_ := Aside0.mk ((z64_4 : gb306 ≠ gb305)); clear BK305; clear HB; have BK305 := n0_; have HB := n1_; have BK306 := n2_; have GW306 := n3_; have GE306 := n4_; have NB305_306 := n5_; have NB306_305 := n6_; clear n0_ n1_ n2_ n3_ n4_ n5_ n6_; clear hb hbox hg) | ((with_reducible refine gate_dst (N := 14) rfl ?_); refine box_event ?hg (N := 14) ?hd (cs := #[.int .i64 0, .int .i64 0, .int .i64 0, .int .i64 0, .int .i64 0, .int .i64 0]) (t := 83) ?hr ?_; (case hd => rfl); (case hg => rfl); (case hr => first | (go_simp; done) | (go_simp; rfl)); intro gb307 hg w41 hbox hb; have n0_ := Aside0.mk (blk_below (g := gb305) (o := .cells #[.int .i64 a0_0, .slice A0_1 l0_1.length c0_1, .slice A0_2 l0_2.length c0_2, .slice A0_3 l0_3.length c0_3] 33 (0, 0)) (pB64_ BK305.out) hb); have n1_ := Aside0.mk (blk_below (g := gb306) (o := .cells #[.int .i64 a2_0, .int .i64 a2_1, .int .i64 a2_2, .int .i64 a2_3, .int .i64 a2_4] 45 (0, 0)) (pB64_ BK306.out) hb); have n2_ := Aside0.mk (below_step z64_11 hb); have n3_ := Aside0.mk (hbox); have n4_ := Aside0.mk ((by rw [hg]; exact (below_size z64_11) : w.heap.size ≤ gb307)); have n5_ := Aside0.mk ((by rw [hg]; exact (below_size z64_11) : w.heap.size ≤ gb307)); have n6_ := Aside0.mk ((z64_3 : gb305 ≠ gb307)); have n7_ := Aside0.mk ((z64_4 : gb307 ≠ gb305)); have n8_ := Aside0.mk ((z64_6 : gb306 ≠ gb307)); have n9_ := Aside0.mk ((z64_7 : gb307 ≠ gb306)); clear BK305; clear BK306; clear HB; have BK305 := n0_; have BK306 := n1_; have HB := n2_; have BK307 := n3_; have GW307 := n4_; have GE307 := n5_; have NB305_307 := n6_; have NB307_305 := n7_; have NB306_307 := n8_; have NB307_306 := n9_; clear n0_ n1_ n2_ n3_ n4_ n5_ n6_ n7_ n8_ n9_; clear hb hbox hg))
      have n0_ := Aside0.mk (blk_drew BK305.out)
      have n1_ := Aside0.mk (blk_drew BK306.out)
      have n2_ := Aside0.mk (blk_drew BK307.out)
      have n3_ := Aside0.mk (below_drew1 HB.out)
      clear BK305
      clear BK306
      clear BK307
      clear HB
      have BK305 := n0_
      have BK306 := n1_
      have BK307 := n2_
      have HB := n3_
      clear n0_ n1_ n2_ n3_
      refine start_ (n := 12) (S := fun w' => w'.cell? ⟨gb306, 0, none⟩ = some (.int .i64 a2_0) ∧ w'.cell? ⟨gb306, 1, none⟩ = some (.int .i64 a2_1) ∧ w'.cell? ⟨gb306, 2, none⟩ = some (.int .i64 a2_2) ∧ w'.cell? ⟨gb306, 3, none⟩ = some (.int .i64 a2_3) ∧ w'.cell? ⟨gb306, 4, none⟩ = some (.int .i64 a2_4) ∧ w'.cell? ⟨gb305, 0, none⟩ = some (.int .i64 a0_0) ∧ w'.cell? ⟨gb305, 1, none⟩ = some (.slice A0_1 l0_1.length c0_1) ∧ w'.cell? ⟨gb305, 2, none⟩ = some (.slice A0_2 l0_2.length c0_2) ∧ w'.cell? ⟨gb305, 3, none⟩ = some (.slice A0_3 l0_3.length c0_3)) (ds := []) #[false, false, false, false, false, false, false, false, false, false, false, false] z64_19 rfl rfl ⟨(blk_cell BK306.out 0).trans rfl, (blk_cell BK306.out 1).trans rfl, (blk_cell BK306.out 2).trans rfl, (blk_cell BK306.out 3).trans rfl, (blk_cell BK306.out 4).trans rfl, (blk_cell BK305.out 0).trans rfl, (blk_cell BK305.out 1).trans rfl, (blk_cell BK305.out 2).trans rfl, (blk_cell BK305.out 3).trans rfl⟩ (fun hHeld => ?_); refine with_tabW spec_HealthFact.tab1 spec_HealthFact.bits1 (fun HT_ HW_ => ?_)
      generalize w41.drew = w42 at BK305 BK306 BK307 HB hHeld ⊢
      refine pure_ (i := 0) (N := some 17) (v := ?_) (a' := ?_) #[true, false, false, false, false, false, false, false, false, false, false, false] rfl rfl (any_of HT_.out z64_19) (fun _ _ _ h => h) (Or.inl ⟨by rfl, ?_⟩) ?_ ?_
      rotate_left
      · intro w'
        go_simp
        with_reducible rfl
      rotate_left
      · simp only [Act.put, List.setIfInBounds_toArray, List.set_cons_zero, List.set_cons_succ, i64_w, i32_w]
        rfl
      refine pure_ (i := 3) (N := some 20) (v := ?_) (a' := ?_) #[true, false, false, true, false, false, false, false, false, false, false, false] rfl rfl (any_of HT_.out z64_19) (fun _ _ _ h => h) (Or.inl ⟨by rfl, ?_⟩) ?_ ?_
      rotate_left
      · intro w'
        go_simp
        with_reducible rfl
      rotate_left
      · simp only [Act.put, List.setIfInBounds_toArray, List.set_cons_zero, List.set_cons_succ, i64_w, i32_w]
        rfl
      refine pure_ (i := 5) (N := some 22) (v := ?_) (a' := ?_) #[true, false, false, true, false, true, false, false, false, false, false, false] rfl rfl (any_of HT_.out z64_19) (fun _ _ _ h => h) (Or.inl ⟨by rfl, ?_⟩) ?_ ?_
      rotate_left
      · intro w'
        go_simp
        with_reducible rfl
      rotate_left
      · simp only [Act.put, List.setIfInBounds_toArray, List.set_cons_zero, List.set_cons_succ, i64_w, i32_w]
        rfl
      refine pure_ (i := 6) (N := some 23) (v := ?_) (a' := ?_) #[true, false, false, true, false, true, true, false, false, false, false, false] rfl rfl (any_of HT_.out z64_19) (fun _ _ _ h => h) (Or.inl ⟨by rfl, ?_⟩) ?_ ?_
      rotate_left
      · intro w'
        go_simp
        with_reducible rfl
      rotate_left
      · simp only [Act.put, List.setIfInBounds_toArray, List.set_cons_zero, List.set_cons_succ, i64_w, i32_w]
        rfl
      refine pure_ (i := 7) (N := some 24) (v := ?_) (a' := ?_) #[true, false, false, true, false, true, true, true, false, false, false, false] rfl rfl (any_of HT_.out z64_19) (fun _ _ _ h => h) (Or.inl ⟨by rfl, ?_⟩) ?_ ?_
      rotate_left
      · intro w'
        go_simp
        with_reducible rfl
      rotate_left
      · simp only [Act.put, List.setIfInBounds_toArray, List.set_cons_zero, List.set_cons_succ, i64_w, i32_w]
        rfl
      refine take_ (i := 1) (N := some 18) (v := ?_) (a' := ?_) #[true, true, false, true, false, true, true, true, false, false, false, false] rfl rfl (take_ofW HT_.out HW_.out z64_19) (fun _ _ _ h => h) (Or.inl ⟨by rfl, ?_⟩) hHeld ?_ ?_
      rotate_left
      · rintro w' ⟨s0, s1, s2, s3, s4, s5, s6, s7, s8⟩
        go_simp
        with_reducible rfl
      rotate_left
      · simp only [Act.put, List.setIfInBounds_toArray, List.set_cons_zero, List.set_cons_succ, i64_w, i32_w]
        rfl
      refine take_ (i := 2) (N := some 19) (v := ?_) (a' := ?_) #[true, true, true, true, false, true, true, true, false, false, false, false] rfl rfl (take_ofW HT_.out HW_.out z64_19) (fun _ _ _ h => h) (Or.inl ⟨by rfl, ?_⟩) hHeld ?_ ?_
      rotate_left
      · rintro w' ⟨s0, s1, s2, s3, s4, s5, s6, s7, s8⟩
        go_simp
        with_reducible rfl
      rotate_left
      · simp only [Act.put, List.setIfInBounds_toArray, List.set_cons_zero, List.set_cons_succ, i64_w, i32_w]
        rfl
      refine join_ (σ := Nat) 1 #[true, true, true, true, true, true, true, true, true, true, true, false] (fun s_ => [(21, .int .i64 t308), (25, .int .i64 t309), (16, .pointer (some ⟨s_, 0, none⟩)), (26, .agg #[.int .i64 3, .int .i64 a2_0, .int .i64 t308, .int .i64 1, .int .i64 a5, .int .i64 t309])]) (fun s_ w' => (w'.cell? ⟨gb306, 0, none⟩ = some (.int .i64 a2_0) ∧ w'.cell? ⟨gb306, 1, none⟩ = some (.int .i64 a2_1) ∧ w'.cell? ⟨gb306, 2, none⟩ = some (.int .i64 a2_2) ∧ w'.cell? ⟨gb306, 3, none⟩ = some (.int .i64 a2_3) ∧ w'.cell? ⟨gb306, 4, none⟩ = some (.int .i64 a2_4) ∧ w'.cell? ⟨gb305, 0, none⟩ = some (.int .i64 a0_0) ∧ w'.cell? ⟨gb305, 1, none⟩ = some (.slice A0_1 l0_1.length c0_1) ∧ w'.cell? ⟨gb305, 2, none⟩ = some (.slice A0_2 l0_2.length c0_2) ∧ w'.cell? ⟨gb305, 3, none⟩ = some (.slice A0_3 l0_3.length c0_3)) ∧ (w'.heap[gb305]? = some (.cells #[.int .i64 a0_0, .slice A0_1 l0_1.length c0_1, .slice A0_2 l0_2.length c0_2, .slice A0_3 l0_3.length c0_3] 33 (0, 0))) ∧ (w'.heap[gb306]? = some (.cells #[.int .i64 a2_0, .int .i64 a2_1, .int .i64 a2_2, .int .i64 a2_3, .int .i64 a2_4] 45 (0, 0))) ∧ (w'.heap[gb307]? = some (.cells #[.int .i64 0, .int .i64 0, .int .i64 0, .int .i64 0, .int .i64 0, .int .i64 0] 83 (0, 0))) ∧ (w'.heap[s_]? = some (.cells #[.int .i64 0, .int .i64 0, .int .i64 0, .int .i64 0, .int .i64 0, .int .i64 0] 83 (0, 0))) ∧ (w.heap.size ≤ s_) ∧ (w.heap.size ≤ s_) ∧ (gb305 ≠ s_) ∧ (s_ ≠ gb305) ∧ (gb306 ≠ s_) ∧ (s_ ≠ gb306) ∧ (gb307 ≠ s_) ∧ (s_ ≠ gb307) ∧ (Below w.heap.size w w')) ?_ ?_
      rotate_left
      · intro hCont
        refine two_ (i := 4) (j := 10) (Ni := some 21) (Nj := some 16) #[true, true, true, true, true, true, true, true, false, false, false, false] #[true, true, true, true, false, true, true, true, false, false, true, false] rfl rfl rfl rfl (two_of HT_.out z64_19) (by decide) (by decide) (fun K hK => ?_) (fun K hK => ?_)
        · skip
          refine goes_ Try.func27 z64_19 rfl #[.agg #[.int .i64 a0_0, .slice A0_1 l0_1.length c0_1, .slice A0_2 l0_2.length c0_2, .slice A0_3 l0_3.length c0_3], .slice A3 l3.length c3] (by rfl) rfl rfl z64_5 ?_
          with_reducible refine (spec_AppraiseLog.calls k a0_0 _ _ l0_1 _ _ l0_2 _ _ l0_3 _ _ l3 t308 _ ?side1 ?side2 ?side3 ?side4 ?side5 ?side6 ?side7 ?side8 A8.out).mono ?_
          (case side1 => repeat (first | exact (Kd.C_below HR0_1.out HB.out) | (with_reducible refine Kd.C_alloc ?_ _) | (with_reducible refine Kd.C_drewN ?_ _) | (with_reducible refine Kd.C_drew ?_)))
          (case side2 => exact HC0_1.out)
          (case side3 => repeat (first | exact (Kd.C_below HR0_2.out HB.out) | (with_reducible refine Kd.C_alloc ?_ _) | (with_reducible refine Kd.C_drewN ?_ _) | (with_reducible refine Kd.C_drew ?_)))
          (case side4 => exact HC0_2.out)
          (case side5 => repeat (first | exact (Kd.C_below HR0_3.out HB.out) | (with_reducible refine Kd.C_alloc ?_ _) | (with_reducible refine Kd.C_drewN ?_ _) | (with_reducible refine Kd.C_drew ?_)))
          (case side6 => exact HC0_3.out)
          (case side7 => repeat (first | exact (Kd.C_below HR3.out HB.out) | (with_reducible refine Kd.C_alloc ?_ _) | (with_reducible refine Kd.C_drewN ?_ _) | (with_reducible refine Kd.C_drew ?_)))
          (case side8 => exact HC3.out)
          rintro e w43 ⟨rfl, hb⟩
          refine ⟨_, rfl, ?_⟩
          have n0_ := Aside0.mk (blk_below (g := gb305) (o := .cells #[.int .i64 a0_0, .slice A0_1 l0_1.length c0_1, .slice A0_2 l0_2.length c0_2, .slice A0_3 l0_3.length c0_3] 33 (0, 0)) (pB64_ BK305.out) hb)
          have n1_ := Aside0.mk (blk_below (g := gb306) (o := .cells #[.int .i64 a2_0, .int .i64 a2_1, .int .i64 a2_2, .int .i64 a2_3, .int .i64 a2_4] 45 (0, 0)) (pB64_ BK306.out) hb)
          have n2_ := Aside0.mk (blk_below (g := gb307) (o := .cells #[.int .i64 0, .int .i64 0, .int .i64 0, .int .i64 0, .int .i64 0, .int .i64 0] 83 (0, 0)) (pB64_ BK307.out) hb)
          have n3_ := Aside0.mk (below_step z64_0 hb)
          clear BK305
          clear BK306
          clear BK307
          clear HB
          have BK305 := n0_
          have BK306 := n1_
          have BK307 := n2_
          have HB := n3_
          clear n0_ n1_ n2_ n3_
          (try clear hb)
          (try clear hb2)
          (try clear hk)
          (try clear hi)
          refine hK.out _ _ ⟨(blk_cell BK306.out 0).trans rfl, (blk_cell BK306.out 1).trans rfl, (blk_cell BK306.out 2).trans rfl, (blk_cell BK306.out 3).trans rfl, (blk_cell BK306.out 4).trans rfl, (blk_cell BK305.out 0).trans rfl, (blk_cell BK305.out 1).trans rfl, (blk_cell BK305.out 2).trans rfl, (blk_cell BK305.out 3).trans rfl⟩ (fun hHeld => ?_)
          clear hK K
          refine norm_ (a' := ?_) ?_ ?_
          rotate_left
          · show Act.put _ (some 21) _ = _
            simp only [Act.put, List.setIfInBounds_toArray, List.set_cons_zero, List.set_cons_succ, i64_w, i32_w]
            rfl
          refine two_ (i := 8) (j := 10) (Ni := some 25) (Nj := some 16) #[true, true, true, true, true, true, true, true, true, false, false, false] #[true, true, true, true, true, true, true, true, false, false, true, false] rfl rfl rfl rfl (two_of HT_.out z64_19) (by decide) (by decide) (fun K hK => ?_) (fun K hK => ?_)
          · skip
            refine goes_ Try.func110 z64_19 rfl #[.int .i64 a5, .int .i64 a6] (by rfl) rfl rfl z64_5 ?_
            with_reducible refine (spec_EndOf.calls a5 a6 t309 _ A9.out).mono ?_
            rintro e w' ⟨rfl, ⟨nd, rfl⟩⟩
            refine ⟨_, rfl, ?_⟩
            refine hK.out _ _ ⟨(blk_cell BK306.out 0).trans rfl, (blk_cell BK306.out 1).trans rfl, (blk_cell BK306.out 2).trans rfl, (blk_cell BK306.out 3).trans rfl, (blk_cell BK306.out 4).trans rfl, (blk_cell BK305.out 0).trans rfl, (blk_cell BK305.out 1).trans rfl, (blk_cell BK305.out 2).trans rfl, (blk_cell BK305.out 3).trans rfl⟩ (fun hHeld => ?_)
            clear hK K
            refine norm_ (a' := ?_) ?_ ?_
            rotate_left
            · show Act.put _ (some 25) _ = _
              simp only [Act.put, List.setIfInBounds_toArray, List.set_cons_zero, List.set_cons_succ, i64_w, i32_w]
              rfl
            refine pure_ (i := 9) (N := some 26) (v := ?_) (a' := ?_) #[true, true, true, true, true, true, true, true, true, true, false, false] rfl rfl (any_of HT_.out z64_19) (fun _ _ _ h => h) (Or.inl ⟨by rfl, ?_⟩) ?_ ?_
            rotate_left
            · intro w'
              go_simp
              with_reducible rfl
            rotate_left
            · simp only [Act.put, List.setIfInBounds_toArray, List.set_cons_zero, List.set_cons_succ, i64_w, i32_w]
              rfl
            refine one_ (i := 10) (N := some 16) #[true, true, true, true, true, true, true, true, true, true, true, false] rfl rfl (one_of HT_.out z64_19) (by decide) (fun K hK => ?_)
            refine box_step ?hg (N := 16) ?hd (cs := #[.int .i64 0, .int .i64 0, .int .i64 0, .int .i64 0, .int .i64 0, .int .i64 0]) (t := 83) ?hr ?_; (case hd => rfl); (case hg => rfl); (case hr => first | (go_simp; done) | (go_simp; rfl))
            intro gb310 hg w44 hbox hb
            have n0_ := Aside0.mk (blk_below (g := gb305) (o := .cells #[.int .i64 a0_0, .slice A0_1 l0_1.length c0_1, .slice A0_2 l0_2.length c0_2, .slice A0_3 l0_3.length c0_3] 33 (0, 0)) (pB64_ BK305.out) hb)
            have n1_ := Aside0.mk (blk_below (g := gb306) (o := .cells #[.int .i64 a2_0, .int .i64 a2_1, .int .i64 a2_2, .int .i64 a2_3, .int .i64 a2_4] 45 (0, 0)) (pB64_ BK306.out) hb)
            have n2_ := Aside0.mk (blk_below (g := gb307) (o := .cells #[.int .i64 0, .int .i64 0, .int .i64 0, .int .i64 0, .int .i64 0, .int .i64 0] 83 (0, 0)) (pB64_ BK307.out) hb)
            have n3_ := Aside0.mk (below_step z64_0 hb)
            have n4_ := Aside0.mk (hbox)
            have n5_ := Aside0.mk ((z64_18 : w.heap.size ≤ gb310))
            have n6_ := Aside0.mk ((z64_18 : w.heap.size ≤ gb310))
            have n7_ := Aside0.mk ((z64_3 : gb305 ≠ gb310))
            have n8_ := Aside0.mk ((z64_4 : gb310 ≠ gb305))
            have n9_ := Aside0.mk ((z64_6 : gb306 ≠ gb310))
            have n10_ := Aside0.mk ((z64_7 : gb310 ≠ gb306))
            have n11_ := Aside0.mk ((z64_13 : gb307 ≠ gb310))
            have n12_ := Aside0.mk ((z64_14 : gb310 ≠ gb307))
            clear BK305
            clear BK306
            clear BK307
            clear HB
            have BK305 := n0_
            have BK306 := n1_
            have BK307 := n2_
            have HB := n3_
            have BK310 := n4_
            have GW310 := n5_
            have GE310 := n6_
            have NB305_310 := n7_
            have NB310_305 := n8_
            have NB306_310 := n9_
            have NB310_306 := n10_
            have NB307_310 := n11_
            have NB310_307 := n12_
            clear n0_ n1_ n2_ n3_ n4_ n5_ n6_ n7_ n8_ n9_ n10_ n11_ n12_
            clear hb hbox hg
            refine hK.out _ _ ⟨(blk_cell BK306.out 0).trans rfl, (blk_cell BK306.out 1).trans rfl, (blk_cell BK306.out 2).trans rfl, (blk_cell BK306.out 3).trans rfl, (blk_cell BK306.out 4).trans rfl, (blk_cell BK305.out 0).trans rfl, (blk_cell BK305.out 1).trans rfl, (blk_cell BK305.out 2).trans rfl, (blk_cell BK305.out 3).trans rfl⟩ (fun hHeld => ?_)
            clear hK K
            refine norm_ (a' := ?_) ?_ ?_
            rotate_left
            · show Act.put _ (some 16) _ = _
              simp only [Act.put, List.setIfInBounds_toArray, List.set_cons_zero, List.set_cons_succ, i64_w, i32_w]
              rfl
            exact norm_ z64_17 (hCont (gb310) _ ⟨hHeld, (pB64_ BK305.out), (pB64_ BK306.out), (pB64_ BK307.out), (pB64_ BK310.out), GW310.out, GE310.out, NB305_310.out, NB310_305.out, NB306_310.out, NB310_306.out, NB307_310.out, NB310_307.out, z64_1⟩)
          · skip
            refine box_step ?hg (N := 16) ?hd (cs := #[.int .i64 0, .int .i64 0, .int .i64 0, .int .i64 0, .int .i64 0, .int .i64 0]) (t := 83) ?hr ?_; (case hd => rfl); (case hg => rfl); (case hr => first | (go_simp; done) | (go_simp; rfl))
            intro gb310 hg w44 hbox hb
            have n0_ := Aside0.mk (blk_below (g := gb305) (o := .cells #[.int .i64 a0_0, .slice A0_1 l0_1.length c0_1, .slice A0_2 l0_2.length c0_2, .slice A0_3 l0_3.length c0_3] 33 (0, 0)) (pB64_ BK305.out) hb)
            have n1_ := Aside0.mk (blk_below (g := gb306) (o := .cells #[.int .i64 a2_0, .int .i64 a2_1, .int .i64 a2_2, .int .i64 a2_3, .int .i64 a2_4] 45 (0, 0)) (pB64_ BK306.out) hb)
            have n2_ := Aside0.mk (blk_below (g := gb307) (o := .cells #[.int .i64 0, .int .i64 0, .int .i64 0, .int .i64 0, .int .i64 0, .int .i64 0] 83 (0, 0)) (pB64_ BK307.out) hb)
            have n3_ := Aside0.mk (below_step z64_0 hb)
            have n4_ := Aside0.mk (hbox)
            have n5_ := Aside0.mk ((z64_18 : w.heap.size ≤ gb310))
            have n6_ := Aside0.mk ((z64_18 : w.heap.size ≤ gb310))
            have n7_ := Aside0.mk ((z64_3 : gb305 ≠ gb310))
            have n8_ := Aside0.mk ((z64_4 : gb310 ≠ gb305))
            have n9_ := Aside0.mk ((z64_6 : gb306 ≠ gb310))
            have n10_ := Aside0.mk ((z64_7 : gb310 ≠ gb306))
            have n11_ := Aside0.mk ((z64_13 : gb307 ≠ gb310))
            have n12_ := Aside0.mk ((z64_14 : gb310 ≠ gb307))
            clear BK305
            clear BK306
            clear BK307
            clear HB
            have BK305 := n0_
            have BK306 := n1_
            have BK307 := n2_
            have HB := n3_
            have BK310 := n4_
            have GW310 := n5_
            have GE310 := n6_
            have NB305_310 := n7_
            have NB310_305 := n8_
            have NB306_310 := n9_
            have NB310_306 := n10_
            have NB307_310 := n11_
            have NB310_307 := n12_
            clear n0_ n1_ n2_ n3_ n4_ n5_ n6_ n7_ n8_ n9_ n10_ n11_ n12_
            clear hb hbox hg
            refine hK.out _ _ ⟨(blk_cell BK306.out 0).trans rfl, (blk_cell BK306.out 1).trans rfl, (blk_cell BK306.out 2).trans rfl, (blk_cell BK306.out 3).trans rfl, (blk_cell BK306.out 4).trans rfl, (blk_cell BK305.out 0).trans rfl, (blk_cell BK305.out 1).trans rfl, (blk_cell BK305.out 2).trans rfl, (blk_cell BK305.out 3).trans rfl⟩ (fun hHeld => ?_)
            clear hK K
            refine norm_ (a' := ?_) ?_ ?_
            rotate_left
            · show Act.put _ (some 16) _ = _
              simp only [Act.put, List.setIfInBounds_toArray, List.set_cons_zero, List.set_cons_succ, i64_w, i32_w]
              rfl
            refine one_ (i := 8) (N := some 25) #[true, true, true, true, true, true, true, true, true, false, true, false] rfl rfl (one_of HT_.out z64_19) (by decide) (fun K hK => ?_)
            refine goes_ Try.func110 z64_19 rfl #[.int .i64 a5, .int .i64 a6] (by rfl) rfl rfl z64_5 ?_
            with_reducible refine (spec_EndOf.calls a5 a6 t309 _ A9.out).mono ?_
            rintro e w' ⟨rfl, ⟨nd, rfl⟩⟩
            refine ⟨_, rfl, ?_⟩
            refine hK.out _ _ ⟨(blk_cell BK306.out 0).trans rfl, (blk_cell BK306.out 1).trans rfl, (blk_cell BK306.out 2).trans rfl, (blk_cell BK306.out 3).trans rfl, (blk_cell BK306.out 4).trans rfl, (blk_cell BK305.out 0).trans rfl, (blk_cell BK305.out 1).trans rfl, (blk_cell BK305.out 2).trans rfl, (blk_cell BK305.out 3).trans rfl⟩ (fun hHeld => ?_)
            clear hK K
            refine norm_ (a' := ?_) ?_ ?_
            rotate_left
            · show Act.put _ (some 25) _ = _
              simp only [Act.put, List.setIfInBounds_toArray, List.set_cons_zero, List.set_cons_succ, i64_w, i32_w]
              rfl
            refine pure_ (i := 9) (N := some 26) (v := ?_) (a' := ?_) #[true, true, true, true, true, true, true, true, true, true, true, false] rfl rfl (any_of HT_.out z64_19) (fun _ _ _ h => h) (Or.inl ⟨by rfl, ?_⟩) ?_ ?_
            rotate_left
            · intro w'
              go_simp
              with_reducible rfl
            rotate_left
            · simp only [Act.put, List.setIfInBounds_toArray, List.set_cons_zero, List.set_cons_succ, i64_w, i32_w]
              rfl
            exact norm_ z64_17 (hCont (gb310) _ ⟨hHeld, (pB64_ BK305.out), (pB64_ BK306.out), (pB64_ BK307.out), (pB64_ BK310.out), GW310.out, GE310.out, NB305_310.out, NB310_305.out, NB306_310.out, NB310_306.out, NB307_310.out, NB310_307.out, z64_1⟩)
        · skip
          refine box_step ?hg (N := 16) ?hd (cs := #[.int .i64 0, .int .i64 0, .int .i64 0, .int .i64 0, .int .i64 0, .int .i64 0]) (t := 83) ?hr ?_; (case hd => rfl); (case hg => rfl); (case hr => first | (go_simp; done) | (go_simp; rfl))
          intro gb310 hg w43 hbox hb
          have n0_ := Aside0.mk (blk_below (g := gb305) (o := .cells #[.int .i64 a0_0, .slice A0_1 l0_1.length c0_1, .slice A0_2 l0_2.length c0_2, .slice A0_3 l0_3.length c0_3] 33 (0, 0)) (pB64_ BK305.out) hb)
          have n1_ := Aside0.mk (blk_below (g := gb306) (o := .cells #[.int .i64 a2_0, .int .i64 a2_1, .int .i64 a2_2, .int .i64 a2_3, .int .i64 a2_4] 45 (0, 0)) (pB64_ BK306.out) hb)
          have n2_ := Aside0.mk (blk_below (g := gb307) (o := .cells #[.int .i64 0, .int .i64 0, .int .i64 0, .int .i64 0, .int .i64 0, .int .i64 0] 83 (0, 0)) (pB64_ BK307.out) hb)
          have n3_ := Aside0.mk (below_step z64_0 hb)
          have n4_ := Aside0.mk (hbox)
          have n5_ := Aside0.mk ((z64_18 : w.heap.size ≤ gb310))
          have n6_ := Aside0.mk ((z64_18 : w.heap.size ≤ gb310))
          have n7_ := Aside0.mk ((z64_3 : gb305 ≠ gb310))
          have n8_ := Aside0.mk ((z64_4 : gb310 ≠ gb305))
          have n9_ := Aside0.mk ((z64_6 : gb306 ≠ gb310))
          have n10_ := Aside0.mk ((z64_7 : gb310 ≠ gb306))
          have n11_ := Aside0.mk ((z64_13 : gb307 ≠ gb310))
          have n12_ := Aside0.mk ((z64_14 : gb310 ≠ gb307))
          clear BK305
          clear BK306
          clear BK307
          clear HB
          have BK305 := n0_
          have BK306 := n1_
          have BK307 := n2_
          have HB := n3_
          have BK310 := n4_
          have GW310 := n5_
          have GE310 := n6_
          have NB305_310 := n7_
          have NB310_305 := n8_
          have NB306_310 := n9_
          have NB310_306 := n10_
          have NB307_310 := n11_
          have NB310_307 := n12_
          clear n0_ n1_ n2_ n3_ n4_ n5_ n6_ n7_ n8_ n9_ n10_ n11_ n12_
          clear hb hbox hg
          refine hK.out _ _ ⟨(blk_cell BK306.out 0).trans rfl, (blk_cell BK306.out 1).trans rfl, (blk_cell BK306.out 2).trans rfl, (blk_cell BK306.out 3).trans rfl, (blk_cell BK306.out 4).trans rfl, (blk_cell BK305.out 0).trans rfl, (blk_cell BK305.out 1).trans rfl, (blk_cell BK305.out 2).trans rfl, (blk_cell BK305.out 3).trans rfl⟩ (fun hHeld => ?_)
          clear hK K
          refine norm_ (a' := ?_) ?_ ?_
          rotate_left
          · show Act.put _ (some 16) _ = _
            simp only [Act.put, List.setIfInBounds_toArray, List.set_cons_zero, List.set_cons_succ, i64_w, i32_w]
            rfl
          refine one_ (i := 4) (N := some 21) #[true, true, true, true, true, true, true, true, false, false, true, false] rfl rfl (one_of HT_.out z64_19) (by decide) (fun K hK => ?_)
          refine goes_ Try.func27 z64_19 rfl #[.agg #[.int .i64 a0_0, .slice A0_1 l0_1.length c0_1, .slice A0_2 l0_2.length c0_2, .slice A0_3 l0_3.length c0_3], .slice A3 l3.length c3] (by rfl) rfl rfl z64_5 ?_
          with_reducible refine (spec_AppraiseLog.calls k a0_0 _ _ l0_1 _ _ l0_2 _ _ l0_3 _ _ l3 t308 _ ?side1 ?side2 ?side3 ?side4 ?side5 ?side6 ?side7 ?side8 A8.out).mono ?_
          (case side1 => repeat (first | exact (Kd.C_below HR0_1.out HB.out) | (with_reducible refine Kd.C_alloc ?_ _) | (with_reducible refine Kd.C_drewN ?_ _) | (with_reducible refine Kd.C_drew ?_)))
          (case side2 => exact HC0_1.out)
          (case side3 => repeat (first | exact (Kd.C_below HR0_2.out HB.out) | (with_reducible refine Kd.C_alloc ?_ _) | (with_reducible refine Kd.C_drewN ?_ _) | (with_reducible refine Kd.C_drew ?_)))
          (case side4 => exact HC0_2.out)
          (case side5 => repeat (first | exact (Kd.C_below HR0_3.out HB.out) | (with_reducible refine Kd.C_alloc ?_ _) | (with_reducible refine Kd.C_drewN ?_ _) | (with_reducible refine Kd.C_drew ?_)))
          (case side6 => exact HC0_3.out)
          (case side7 => repeat (first | exact (Kd.C_below HR3.out HB.out) | (with_reducible refine Kd.C_alloc ?_ _) | (with_reducible refine Kd.C_drewN ?_ _) | (with_reducible refine Kd.C_drew ?_)))
          (case side8 => exact HC3.out)
          rintro e w44 ⟨rfl, hb⟩
          refine ⟨_, rfl, ?_⟩
          have n0_ := Aside0.mk (blk_below (g := gb305) (o := .cells #[.int .i64 a0_0, .slice A0_1 l0_1.length c0_1, .slice A0_2 l0_2.length c0_2, .slice A0_3 l0_3.length c0_3] 33 (0, 0)) (pB64_ BK305.out) hb)
          have n1_ := Aside0.mk (blk_below (g := gb306) (o := .cells #[.int .i64 a2_0, .int .i64 a2_1, .int .i64 a2_2, .int .i64 a2_3, .int .i64 a2_4] 45 (0, 0)) (pB64_ BK306.out) hb)
          have n2_ := Aside0.mk (blk_below (g := gb307) (o := .cells #[.int .i64 0, .int .i64 0, .int .i64 0, .int .i64 0, .int .i64 0, .int .i64 0] 83 (0, 0)) (pB64_ BK307.out) hb)
          have n3_ := Aside0.mk (blk_below (g := gb310) (o := .cells #[.int .i64 0, .int .i64 0, .int .i64 0, .int .i64 0, .int .i64 0, .int .i64 0] 83 (0, 0)) (pB64_ BK310.out) hb)
          have n4_ := Aside0.mk (below_step z64_1 hb)
          clear BK305
          clear BK306
          clear BK307
          clear BK310
          clear HB
          have BK305 := n0_
          have BK306 := n1_
          have BK307 := n2_
          have BK310 := n3_
          have HB := n4_
          clear n0_ n1_ n2_ n3_ n4_
          (try clear hb)
          (try clear hb2)
          (try clear hk)
          (try clear hi)
          refine hK.out _ _ ⟨(blk_cell BK306.out 0).trans rfl, (blk_cell BK306.out 1).trans rfl, (blk_cell BK306.out 2).trans rfl, (blk_cell BK306.out 3).trans rfl, (blk_cell BK306.out 4).trans rfl, (blk_cell BK305.out 0).trans rfl, (blk_cell BK305.out 1).trans rfl, (blk_cell BK305.out 2).trans rfl, (blk_cell BK305.out 3).trans rfl⟩ (fun hHeld => ?_)
          clear hK K
          refine norm_ (a' := ?_) ?_ ?_
          rotate_left
          · show Act.put _ (some 21) _ = _
            simp only [Act.put, List.setIfInBounds_toArray, List.set_cons_zero, List.set_cons_succ, i64_w, i32_w]
            rfl
          refine one_ (i := 8) (N := some 25) #[true, true, true, true, true, true, true, true, true, false, true, false] rfl rfl (one_of HT_.out z64_19) (by decide) (fun K hK => ?_)
          refine goes_ Try.func110 z64_19 rfl #[.int .i64 a5, .int .i64 a6] (by rfl) rfl rfl z64_5 ?_
          with_reducible refine (spec_EndOf.calls a5 a6 t309 _ A9.out).mono ?_
          rintro e w' ⟨rfl, ⟨nd, rfl⟩⟩
          refine ⟨_, rfl, ?_⟩
          refine hK.out _ _ ⟨(blk_cell BK306.out 0).trans rfl, (blk_cell BK306.out 1).trans rfl, (blk_cell BK306.out 2).trans rfl, (blk_cell BK306.out 3).trans rfl, (blk_cell BK306.out 4).trans rfl, (blk_cell BK305.out 0).trans rfl, (blk_cell BK305.out 1).trans rfl, (blk_cell BK305.out 2).trans rfl, (blk_cell BK305.out 3).trans rfl⟩ (fun hHeld => ?_)
          clear hK K
          refine norm_ (a' := ?_) ?_ ?_
          rotate_left
          · show Act.put _ (some 25) _ = _
            simp only [Act.put, List.setIfInBounds_toArray, List.set_cons_zero, List.set_cons_succ, i64_w, i32_w]
            rfl
          refine pure_ (i := 9) (N := some 26) (v := ?_) (a' := ?_) #[true, true, true, true, true, true, true, true, true, true, true, false] rfl rfl (any_of HT_.out z64_19) (fun _ _ _ h => h) (Or.inl ⟨by rfl, ?_⟩) ?_ ?_
          rotate_left
          · intro w'
            go_simp
            with_reducible rfl
          rotate_left
          · simp only [Act.put, List.setIfInBounds_toArray, List.set_cons_zero, List.set_cons_succ, i64_w, i32_w]
            rfl
          exact norm_ z64_17 (hCont (gb310) _ ⟨hHeld, (pB64_ BK305.out), (pB64_ BK306.out), (pB64_ BK307.out), (pB64_ BK310.out), GW310.out, GE310.out, NB305_310.out, NB310_305.out, NB306_310.out, NB310_306.out, NB307_310.out, NB310_307.out, z64_1⟩)
      rintro gb310 w45 ⟨hS_, h0_, h1_, h2_, h3_, h4_, h5_, h6_, h7_, h8_, h9_, h10_, h11_, h12_⟩
      have n0_ : Aside0 (w45.heap[gb305]? = some (.cells #[.int .i64 a0_0, .slice A0_1 l0_1.length c0_1, .slice A0_2 l0_2.length c0_2, .slice A0_3 l0_3.length c0_3] 33 (0, 0))) := ⟨h0_⟩
      have n1_ : Aside0 (w45.heap[gb306]? = some (.cells #[.int .i64 a2_0, .int .i64 a2_1, .int .i64 a2_2, .int .i64 a2_3, .int .i64 a2_4] 45 (0, 0))) := ⟨h1_⟩
      have n2_ : Aside0 (w45.heap[gb307]? = some (.cells #[.int .i64 0, .int .i64 0, .int .i64 0, .int .i64 0, .int .i64 0, .int .i64 0] 83 (0, 0))) := ⟨h2_⟩
      have n3_ : Aside0 (w45.heap[gb310]? = some (.cells #[.int .i64 0, .int .i64 0, .int .i64 0, .int .i64 0, .int .i64 0, .int .i64 0] 83 (0, 0))) := ⟨h3_⟩
      have n4_ : Aside0 (w.heap.size ≤ gb310) := ⟨h4_⟩
      have n5_ : Aside0 (w.heap.size ≤ gb310) := ⟨h5_⟩
      have n6_ : Aside0 (gb305 ≠ gb310) := ⟨h6_⟩
      have n7_ : Aside0 (gb310 ≠ gb305) := ⟨h7_⟩
      have n8_ : Aside0 (gb306 ≠ gb310) := ⟨h8_⟩
      have n9_ : Aside0 (gb310 ≠ gb306) := ⟨h9_⟩
      have n10_ : Aside0 (gb307 ≠ gb310) := ⟨h10_⟩
      have n11_ : Aside0 (gb310 ≠ gb307) := ⟨h11_⟩
      have n12_ : Aside0 (Below w.heap.size w w45) := ⟨h12_⟩
      clear BK305
      clear BK306
      clear BK307
      clear HB
      clear h0_ h1_ h2_ h3_ h4_ h5_ h6_ h7_ h8_ h9_ h10_ h11_ h12_
      have BK305 := n0_
      have BK306 := n1_
      have BK307 := n2_
      have BK310 := n3_
      have GW310 := n4_
      have GE310 := n5_
      have NB305_310 := n6_
      have NB310_305 := n7_
      have NB306_310 := n8_
      have NB310_306 := n9_
      have NB307_310 := n10_
      have NB310_307 := n11_
      have HB := n12_
      clear n0_ n1_ n2_ n3_ n4_ n5_ n6_ n7_ n8_ n9_ n10_ n11_ n12_
      have hHeld : w45.cell? ⟨gb306, 0, none⟩ = some (.int .i64 a2_0) ∧ w45.cell? ⟨gb306, 1, none⟩ = some (.int .i64 a2_1) ∧ w45.cell? ⟨gb306, 2, none⟩ = some (.int .i64 a2_2) ∧ w45.cell? ⟨gb306, 3, none⟩ = some (.int .i64 a2_3) ∧ w45.cell? ⟨gb306, 4, none⟩ = some (.int .i64 a2_4) ∧ w45.cell? ⟨gb305, 0, none⟩ = some (.int .i64 a0_0) ∧ w45.cell? ⟨gb305, 1, none⟩ = some (.slice A0_1 l0_1.length c0_1) ∧ w45.cell? ⟨gb305, 2, none⟩ = some (.slice A0_2 l0_2.length c0_2) ∧ w45.cell? ⟨gb305, 3, none⟩ = some (.slice A0_3 l0_3.length c0_3) := hS_
      refine norm_ (a' := ?_) ?_ ?_
      rotate_left
      · simp only [putAll, Act.put, List.setIfInBounds_toArray, List.set_cons_zero, List.set_cons_succ]
        rfl
      refine one_ (i := 11) (N := none) #[true, true, true, true, true, true, true, true, true, true, true, true] rfl rfl (one_of HT_.out z64_19) (by decide) (fun K hK => ?_)
      have hs46 : w45.cell? ⟨gb310, 0, none⟩ = some (.int .i64 0) := (blk_cell BK310.out 0).trans rfl
      have hfs46 := blk_frozen BK310.out 0
      have hns46_0 := NB305_310.out
      have hns46_1 := NB306_310.out
      have hns46_2 := NB307_310.out
      have hms46_0 := NB310_305.out
      have hms46_1 := NB310_306.out
      have hms46_2 := NB310_307.out
      have hs47 : w45.cell? ⟨gb310, 1, none⟩ = some (.int .i64 0) := (blk_cell BK310.out 1).trans rfl
      have hfs47 := blk_frozen BK310.out 1
      have hns47_0 := NB305_310.out
      have hns47_1 := NB306_310.out
      have hns47_2 := NB307_310.out
      have hms47_0 := NB310_305.out
      have hms47_1 := NB310_306.out
      have hms47_2 := NB310_307.out
      have hs48 : w45.cell? ⟨gb310, 2, none⟩ = some (.int .i64 0) := (blk_cell BK310.out 2).trans rfl
      have hfs48 := blk_frozen BK310.out 2
      have hns48_0 := NB305_310.out
      have hns48_1 := NB306_310.out
      have hns48_2 := NB307_310.out
      have hms48_0 := NB310_305.out
      have hms48_1 := NB310_306.out
      have hms48_2 := NB310_307.out
      have hs49 : w45.cell? ⟨gb310, 3, none⟩ = some (.int .i64 0) := (blk_cell BK310.out 3).trans rfl
      have hfs49 := blk_frozen BK310.out 3
      have hns49_0 := NB305_310.out
      have hns49_1 := NB306_310.out
      have hns49_2 := NB307_310.out
      have hms49_0 := NB310_305.out
      have hms49_1 := NB310_306.out
      have hms49_2 := NB310_307.out
      have hs50 : w45.cell? ⟨gb310, 4, none⟩ = some (.int .i64 0) := (blk_cell BK310.out 4).trans rfl
      have hfs50 := blk_frozen BK310.out 4
      have hns50_0 := NB305_310.out
      have hns50_1 := NB306_310.out
      have hns50_2 := NB307_310.out
      have hms50_0 := NB310_305.out
      have hms50_1 := NB310_306.out
      have hms50_2 := NB310_307.out
      have hs51 : w45.cell? ⟨gb310, 5, none⟩ = some (.int .i64 0) := (blk_cell BK310.out 5).trans rfl
      have hfs51 := blk_frozen BK310.out 5
      have hns51_0 := NB305_310.out
      have hns51_1 := NB306_310.out
      have hns51_2 := NB307_310.out
      have hms51_0 := NB310_305.out
      have hms51_1 := NB310_306.out
      have hms51_2 := NB310_307.out
      refine skip_ (w1 := ?_) (by rfl) rfl ?_ ?_
      rotate_left
      · go_simp
        rfl
      refine hK.out _ _ ⟨((cell_far (p := ⟨gb310, _, none⟩) NB306_310.out _).trans (((cell_far (p := ⟨gb310, _, none⟩) NB306_310.out _).trans (((cell_far (p := ⟨gb310, _, none⟩) NB306_310.out _).trans (((cell_far (p := ⟨gb310, _, none⟩) NB306_310.out _).trans (((cell_far (p := ⟨gb310, _, none⟩) NB306_310.out _).trans (((cell_far (p := ⟨gb310, _, none⟩) NB306_310.out _).trans (hHeld.1)))))))))))), ((cell_far (p := ⟨gb310, _, none⟩) NB306_310.out _).trans (((cell_far (p := ⟨gb310, _, none⟩) NB306_310.out _).trans (((cell_far (p := ⟨gb310, _, none⟩) NB306_310.out _).trans (((cell_far (p := ⟨gb310, _, none⟩) NB306_310.out _).trans (((cell_far (p := ⟨gb310, _, none⟩) NB306_310.out _).trans (((cell_far (p := ⟨gb310, _, none⟩) NB306_310.out _).trans (hHeld.2.1)))))))))))), ((cell_far (p := ⟨gb310, _, none⟩) NB306_310.out _).trans (((cell_far (p := ⟨gb310, _, none⟩) NB306_310.out _).trans (((cell_far (p := ⟨gb310, _, none⟩) NB306_310.out _).trans (((cell_far (p := ⟨gb310, _, none⟩) NB306_310.out _).trans (((cell_far (p := ⟨gb310, _, none⟩) NB306_310.out _).trans (((cell_far (p := ⟨gb310, _, none⟩) NB306_310.out _).trans (hHeld.2.2.1)))))))))))), ((cell_far (p := ⟨gb310, _, none⟩) NB306_310.out _).trans (((cell_far (p := ⟨gb310, _, none⟩) NB306_310.out _).trans (((cell_far (p := ⟨gb310, _, none⟩) NB306_310.out _).trans (((cell_far (p := ⟨gb310, _, none⟩) NB306_310.out _).trans (((cell_far (p := ⟨gb310, _, none⟩) NB306_310.out _).trans (((cell_far (p := ⟨gb310, _, none⟩) NB306_310.out _).trans (hHeld.2.2.2.1)))))))))))), ((cell_far (p := ⟨gb310, _, none⟩) NB306_310.out _).trans (((cell_far (p := ⟨gb310, _, none⟩) NB306_310.out _).trans (((cell_far (p := ⟨gb310, _, none⟩) NB306_310.out _).trans (((cell_far (p := ⟨gb310, _, none⟩) NB306_310.out _).trans (((cell_far (p := ⟨gb310, _, none⟩) NB306_310.out _).trans (((cell_far (p := ⟨gb310, _, none⟩) NB306_310.out _).trans (hHeld.2.2.2.2.1)))))))))))), ((cell_far (p := ⟨gb310, _, none⟩) NB305_310.out _).trans (((cell_far (p := ⟨gb310, _, none⟩) NB305_310.out _).trans (((cell_far (p := ⟨gb310, _, none⟩) NB305_310.out _).trans (((cell_far (p := ⟨gb310, _, none⟩) NB305_310.out _).trans (((cell_far (p := ⟨gb310, _, none⟩) NB305_310.out _).trans (((cell_far (p := ⟨gb310, _, none⟩) NB305_310.out _).trans (hHeld.2.2.2.2.2.1)))))))))))), ((cell_far (p := ⟨gb310, _, none⟩) NB305_310.out _).trans (((cell_far (p := ⟨gb310, _, none⟩) NB305_310.out _).trans (((cell_far (p := ⟨gb310, _, none⟩) NB305_310.out _).trans (((cell_far (p := ⟨gb310, _, none⟩) NB305_310.out _).trans (((cell_far (p := ⟨gb310, _, none⟩) NB305_310.out _).trans (((cell_far (p := ⟨gb310, _, none⟩) NB305_310.out _).trans (hHeld.2.2.2.2.2.2.1)))))))))))), ((cell_far (p := ⟨gb310, _, none⟩) NB305_310.out _).trans (((cell_far (p := ⟨gb310, _, none⟩) NB305_310.out _).trans (((cell_far (p := ⟨gb310, _, none⟩) NB305_310.out _).trans (((cell_far (p := ⟨gb310, _, none⟩) NB305_310.out _).trans (((cell_far (p := ⟨gb310, _, none⟩) NB305_310.out _).trans (((cell_far (p := ⟨gb310, _, none⟩) NB305_310.out _).trans (hHeld.2.2.2.2.2.2.2.1)))))))))))), ((cell_far (p := ⟨gb310, _, none⟩) NB305_310.out _).trans (((cell_far (p := ⟨gb310, _, none⟩) NB305_310.out _).trans (((cell_far (p := ⟨gb310, _, none⟩) NB305_310.out _).trans (((cell_far (p := ⟨gb310, _, none⟩) NB305_310.out _).trans (((cell_far (p := ⟨gb310, _, none⟩) NB305_310.out _).trans (((cell_far (p := ⟨gb310, _, none⟩) NB305_310.out _).trans (hHeld.2.2.2.2.2.2.2.2))))))))))))⟩ (fun hHeld => ?_)
      clear hK K
      refine done_ (done_of HT_.out z64_19) ?_
      have hnb52 := NB306_305.out
      have hnc52 := NB305_306.out
      have hnb53 := NB306_307.out
      have hnc53 := NB307_306.out
      have hnb54 := NB306_310.out
      have hnc54 := NB310_306.out
      have hcz55_0 : w45.cell? ⟨gb306, 0, none⟩ = some (.int .i64 a2_0) := (blk_cell BK306.out 0).trans rfl
      have hcz55_1 : w45.cell? ⟨gb306, 1, none⟩ = some (.int .i64 a2_1) := (blk_cell BK306.out 1).trans rfl
      have hcz55_2 : w45.cell? ⟨gb306, 2, none⟩ = some (.int .i64 a2_2) := (blk_cell BK306.out 2).trans rfl
      have hcz55_3 : w45.cell? ⟨gb306, 3, none⟩ = some (.int .i64 a2_3) := (blk_cell BK306.out 3).trans rfl
      have hcz55_4 : w45.cell? ⟨gb306, 4, none⟩ = some (.int .i64 a2_4) := (blk_cell BK306.out 4).trans rfl
      have hfz55_0 := blk_frozen BK306.out 0
      have hfz55_1 := blk_frozen BK306.out 1
      have hfz55_2 := blk_frozen BK306.out 2
      have hfz55_3 := blk_frozen BK306.out 3
      have hfz55_4 := blk_frozen BK306.out 4
      try go_wp2_with (first | ((with_reducible refine gate_callee (f := 36) rfl ?_); refine goesL_ (some 32) rfl rfl Try.func36 z64_19 rfl #[.int .i64 a1, .agg #[.int .i64 a2_0, .int .i64 a2_1, .int .i64 a2_2, .int .i64 a2_3, .int .i64 a2_4], .slice A3 l3.length c3, .int .i64 a4, .int .i64 a5, .int .i64 5] rfl z64_5 ?_; (with_reducible refine (spec_CheckQuote.calls k a1 a2_0 a2_1 a2_2 a2_3 a2_4 _ _ l3 a4 a5 5 true _ ?side1 ?side2 A10.out).mono ?_); (case side1 => exact Kd.C_below HR3.out z64_1); (case side2 => exact HC3.out); rintro e w56 ⟨rfl, hb⟩; refine ⟨_, rfl, ?_⟩; have n0_ := Aside0.mk (blk_below (g := gb305) (o := .cells #[.int .i64 a0_0, .slice A0_1 l0_1.length c0_1, .slice A0_2 l0_2.length c0_2, .slice A0_3 l0_3.length c0_3] 33 (0, 0)) z64_10 hb); have n1_ := Aside0.mk (blk_below (g := gb306) (o := .cells #[.int .i64 a2_0, .int .i64 a2_1, .int .i64 a2_2, .int .i64 a2_3, .int .i64 a2_4] 45 (0, 0)) z64_9 hb); have n2_ := Aside0.mk (blk_below (g := gb307) (o := .cells #[.int .i64 0, .int .i64 0, .int .i64 0, .int .i64 0, .int .i64 0, .int .i64 0] 83 (0, 0)) z64_8 hb); have n3_ := Aside0.mk (blk_below (g := gb310) (o := .cells #[.int .i64 3, .int .i64 a2_0, .int .i64 t308, .int .i64 1, .int .i64 a5, .int .i64 t309] 83 (0, 0)) z64_2 hb); have n4_ := Aside0.mk (below_step z64_1 hb); clear BK305; clear BK306; clear BK307; clear BK310; clear HB; have BK305 := n0_; have BK306 := n1_; have BK307 := n2_; have BK310 := n3_; have HB := n4_; clear n0_ n1_ n2_ n3_ n4_; (try clear hb); (try clear hb2); (try clear hk); (try clear hi); have hnb57 := NB310_305.out; have hnc57 := NB305_310.out; have hnb58 := NB310_307.out; have hnc58 := NB307_310.out; have hcz59_0 : w56.cell? ⟨gb310, 0, none⟩ = some (.int .i64 3) := (blk_cell BK310.out 0).trans rfl; have hcz59_1 : w56.cell? ⟨gb310, 1, none⟩ = some (.int .i64 a2_0) := (blk_cell BK310.out 1).trans rfl; have hcz59_2 : w56.cell? ⟨gb310, 2, none⟩ = some (.int .i64 t308) := (blk_cell BK310.out 2).trans rfl; have hcz59_3 : w56.cell? ⟨gb310, 3, none⟩ = some (.int .i64 1) := (blk_cell BK310.out 3).trans rfl; have hcz59_4 : w56.cell? ⟨gb310, 4, none⟩ = some (.int .i64 a5) := (blk_cell BK310.out 4).trans rfl; have hcz59_5 : w56.cell? ⟨gb310, 5, none⟩ = some (.int .i64 t309) := (blk_cell BK310.out 5).trans rfl; have hfz59_0 := blk_frozen BK310.out 0; have hfz59_1 := blk_frozen BK310.out 1; have hfz59_2 := blk_frozen BK310.out 2; have hfz59_3 := blk_frozen BK310.out 3; have hfz59_4 := blk_frozen BK310.out 4; have hfz59_5 := blk_frozen BK310.out 5) | (go_at_call 122; (with_reducible refine (spec_IsFact.calls 3 a2_0 t308 1 a5 t309 false _ A12.out).mono ?_); rintro e w60 ⟨rfl, hb⟩; have n0_ := Aside0.mk (blk_below (g := gb305) (o := .cells #[.int .i64 a0_0, .slice A0_1 l0_1.length c0_1, .slice A0_2 l0_2.length c0_2, .slice A0_3 l0_3.length c0_3] 33 (0, 0)) (pB64_ BK305.out) hb); have n1_ := Aside0.mk (blk_below (g := gb306) (o := .cells #[.int .i64 a2_0, .int .i64 a2_1, .int .i64 a2_2, .int .i64 a2_3, .int .i64 a2_4] 45 (0, 0)) (pB64_ BK306.out) hb); have n2_ := Aside0.mk (blk_below (g := gb307) (o := .cells #[.int .i64 0, .int .i64 0, .int .i64 0, .int .i64 0, .int .i64 0, .int .i64 0] 83 (0, 0)) (pB64_ BK307.out) hb); have n3_ := Aside0.mk (blk_below (g := gb310) (o := .cells #[.int .i64 3, .int .i64 a2_0, .int .i64 t308, .int .i64 1, .int .i64 a5, .int .i64 t309] 83 (0, 0)) (pB64_ BK310.out) hb); have n4_ := Aside0.mk (below_step z64_1 hb); clear BK305; clear BK306; clear BK307; clear BK310; clear HB; have BK305 := n0_; have BK306 := n1_; have BK307 := n2_; have BK310 := n3_; have HB := n4_; clear n0_ n1_ n2_ n3_ n4_; (try clear hb); (try clear hb2); (try clear hk); (try clear hi); have hnb61 := NB307_305.out; have hnc61 := NB305_307.out; have hcz62_0 : w60.cell? ⟨gb307, 0, none⟩ = some (.int .i64 0) := (blk_cell BK307.out 0).trans rfl; have hcz62_1 : w60.cell? ⟨gb307, 1, none⟩ = some (.int .i64 0) := (blk_cell BK307.out 1).trans rfl; have hcz62_2 : w60.cell? ⟨gb307, 2, none⟩ = some (.int .i64 0) := (blk_cell BK307.out 2).trans rfl; have hcz62_3 : w60.cell? ⟨gb307, 3, none⟩ = some (.int .i64 0) := (blk_cell BK307.out 3).trans rfl; have hcz62_4 : w60.cell? ⟨gb307, 4, none⟩ = some (.int .i64 0) := (blk_cell BK307.out 4).trans rfl; have hcz62_5 : w60.cell? ⟨gb307, 5, none⟩ = some (.int .i64 0) := (blk_cell BK307.out 5).trans rfl; have hfz62_0 := blk_frozen BK307.out 0; have hfz62_1 := blk_frozen BK307.out 1; have hfz62_2 := blk_frozen BK307.out 2; have hfz62_3 := blk_frozen BK307.out 3; have hfz62_4 := blk_frozen BK307.out 4; have hfz62_5 := blk_frozen BK307.out 5))
      refine bodyPost_ret (results_ct rfl _ _ gb307 83 #[.int .i64 0, .int .i64 0, .int .i64 0, .int .i64 0, .int .i64 0, .int .i64 0] (0, 0) _ rfl z64_12 Try.underlying83 rfl z64_19) rfl ?_
      exact ⟨by first | rfl | (simp [errW_none, errW_some] <;> rfl) | (simp [*, errW_none, errW_some] <;> rfl), by repeat (first | (with_reducible first | exact HB.out | apply below_alloc | apply pw_below_drewN | apply below_drew1 | refine below_set ?_ GE305.out | refine below_set ?_ GE306.out | refine below_set ?_ GE307.out | refine below_set ?_ GE310.out) | exact HB.out)⟩
  · replace c11 := Bool.eq_false_iff.mpr c11
    subst c11
    have H1 : (some (0, 0, 0, 0, 0, 0, false)) = some (r1, r2, r3, r4, r5, r6, r7) := by rw [if_neg (show ¬ (false = true) by decide)] at H; exact H
    clear H
    have H := H1
    clear H1
    simp only [Option.some.injEq, Prod.mk.injEq] at H
    obtain ⟨rfl, rfl, rfl, rfl, rfl, rfl, rfl⟩ := H
    go_enter Try.func64, Try.ntmps64
    try go_wp2_with (first | ((with_reducible refine gate_dst (N := 7) rfl ?_); refine box_event ?hg (N := 7) ?hd (cs := #[.int .i64 a0_0, .slice A0_1 l0_1.length c0_1, .slice A0_2 l0_2.length c0_2, .slice A0_3 l0_3.length c0_3]) (t := 33) ?hr ?_; (case hd => rfl); (case hg => rfl); (case hr => first | (go_simp; done) | (go_simp; rfl)); intro gb305 hg w63 hbox hb; have n0_ := Aside0.mk (below_step z64_16 hb); have n1_ := Aside0.mk (hbox); have n2_ := Aside0.mk ((by rw [hg]; exact (below_size z64_16) : w.heap.size ≤ gb305)); have n3_ := Aside0.mk ((by rw [hg]; exact (below_size z64_16) : w.heap.size ≤ gb305)); clear HB; have HB := n0_; have BK305 := n1_; have GW305 := n2_; have GE305 := n3_; clear n0_ n1_ n2_ n3_; clear hb hbox hg) | ((with_reducible refine gate_dst (N := 9) rfl ?_); refine box_event ?hg (N := 9) ?hd (cs := #[.int .i64 a2_0, .int .i64 a2_1, .int .i64 a2_2, .int .i64 a2_3, .int .i64 a2_4]) (t := 45) ?hr ?_; (case hd => rfl); (case hg => rfl); (case hr => first | (go_simp; done) | (go_simp; rfl)); intro gb306 hg w64 hbox hb; have n0_ := Aside0.mk (blk_below (g := gb305) (o := .cells #[.int .i64 a0_0, .slice A0_1 l0_1.length c0_1, .slice A0_2 l0_2.length c0_2, .slice A0_3 l0_3.length c0_3] 33 (0, 0)) (pB64_ BK305.out) hb); have n1_ := Aside0.mk (below_step z64_15 hb); have n2_ := Aside0.mk (hbox); have n3_ := Aside0.mk ((by rw [hg]; exact (below_size z64_15) : w.heap.size ≤ gb306)); have n4_ := Aside0.mk ((by rw [hg]; exact (below_size z64_15) : w.heap.size ≤ gb306)); have n5_ := Aside0.mk ((z64_3 : gb305 ≠ gb306)); have n6_ := Aside0.mk ((z64_4 : gb306 ≠ gb305)); clear BK305; clear HB; have BK305 := n0_; have HB := n1_; have BK306 := n2_; have GW306 := n3_; have GE306 := n4_; have NB305_306 := n5_; have NB306_305 := n6_; clear n0_ n1_ n2_ n3_ n4_ n5_ n6_; clear hb hbox hg) | ((with_reducible refine gate_dst (N := 14) rfl ?_); refine box_event ?hg (N := 14) ?hd (cs := #[.int .i64 0, .int .i64 0, .int .i64 0, .int .i64 0, .int .i64 0, .int .i64 0]) (t := 83) ?hr ?_; (case hd => rfl); (case hg => rfl); (case hr => first | (go_simp; done) | (go_simp; rfl)); intro gb307 hg w65 hbox hb; have n0_ := Aside0.mk (blk_below (g := gb305) (o := .cells #[.int .i64 a0_0, .slice A0_1 l0_1.length c0_1, .slice A0_2 l0_2.length c0_2, .slice A0_3 l0_3.length c0_3] 33 (0, 0)) (pB64_ BK305.out) hb); have n1_ := Aside0.mk (blk_below (g := gb306) (o := .cells #[.int .i64 a2_0, .int .i64 a2_1, .int .i64 a2_2, .int .i64 a2_3, .int .i64 a2_4] 45 (0, 0)) (pB64_ BK306.out) hb); have n2_ := Aside0.mk (below_step z64_11 hb); have n3_ := Aside0.mk (hbox); have n4_ := Aside0.mk ((by rw [hg]; exact (below_size z64_11) : w.heap.size ≤ gb307)); have n5_ := Aside0.mk ((by rw [hg]; exact (below_size z64_11) : w.heap.size ≤ gb307)); have n6_ := Aside0.mk ((z64_3 : gb305 ≠ gb307)); have n7_ := Aside0.mk ((z64_4 : gb307 ≠ gb305)); have n8_ := Aside0.mk ((z64_6 : gb306 ≠ gb307)); have n9_ := Aside0.mk ((z64_7 : gb307 ≠ gb306)); clear BK305; clear BK306; clear HB; have BK305 := n0_; have BK306 := n1_; have HB := n2_; have BK307 := n3_; have GW307 := n4_; have GE307 := n5_; have NB305_307 := n6_; have NB307_305 := n7_; have NB306_307 := n8_; have NB307_306 := n9_; clear n0_ n1_ n2_ n3_ n4_ n5_ n6_ n7_ n8_ n9_; clear hb hbox hg))
    have n0_ := Aside0.mk (blk_drew BK305.out)
    have n1_ := Aside0.mk (blk_drew BK306.out)
    have n2_ := Aside0.mk (blk_drew BK307.out)
    have n3_ := Aside0.mk (below_drew1 HB.out)
    clear BK305
    clear BK306
    clear BK307
    clear HB
    have BK305 := n0_
    have BK306 := n1_
    have BK307 := n2_
    have HB := n3_
    clear n0_ n1_ n2_ n3_
    refine start_ (n := 12) (S := fun w' => w'.cell? ⟨gb306, 0, none⟩ = some (.int .i64 a2_0) ∧ w'.cell? ⟨gb306, 1, none⟩ = some (.int .i64 a2_1) ∧ w'.cell? ⟨gb306, 2, none⟩ = some (.int .i64 a2_2) ∧ w'.cell? ⟨gb306, 3, none⟩ = some (.int .i64 a2_3) ∧ w'.cell? ⟨gb306, 4, none⟩ = some (.int .i64 a2_4) ∧ w'.cell? ⟨gb305, 0, none⟩ = some (.int .i64 a0_0) ∧ w'.cell? ⟨gb305, 1, none⟩ = some (.slice A0_1 l0_1.length c0_1) ∧ w'.cell? ⟨gb305, 2, none⟩ = some (.slice A0_2 l0_2.length c0_2) ∧ w'.cell? ⟨gb305, 3, none⟩ = some (.slice A0_3 l0_3.length c0_3)) (ds := []) #[false, false, false, false, false, false, false, false, false, false, false, false] z64_19 rfl rfl ⟨(blk_cell BK306.out 0).trans rfl, (blk_cell BK306.out 1).trans rfl, (blk_cell BK306.out 2).trans rfl, (blk_cell BK306.out 3).trans rfl, (blk_cell BK306.out 4).trans rfl, (blk_cell BK305.out 0).trans rfl, (blk_cell BK305.out 1).trans rfl, (blk_cell BK305.out 2).trans rfl, (blk_cell BK305.out 3).trans rfl⟩ (fun hHeld => ?_); refine with_tabW spec_HealthFact.tab1 spec_HealthFact.bits1 (fun HT_ HW_ => ?_)
    generalize w65.drew = w66 at BK305 BK306 BK307 HB hHeld ⊢
    refine pure_ (i := 0) (N := some 17) (v := ?_) (a' := ?_) #[true, false, false, false, false, false, false, false, false, false, false, false] rfl rfl (any_of HT_.out z64_19) (fun _ _ _ h => h) (Or.inl ⟨by rfl, ?_⟩) ?_ ?_
    rotate_left
    · intro w'
      go_simp
      with_reducible rfl
    rotate_left
    · simp only [Act.put, List.setIfInBounds_toArray, List.set_cons_zero, List.set_cons_succ, i64_w, i32_w]
      rfl
    refine pure_ (i := 3) (N := some 20) (v := ?_) (a' := ?_) #[true, false, false, true, false, false, false, false, false, false, false, false] rfl rfl (any_of HT_.out z64_19) (fun _ _ _ h => h) (Or.inl ⟨by rfl, ?_⟩) ?_ ?_
    rotate_left
    · intro w'
      go_simp
      with_reducible rfl
    rotate_left
    · simp only [Act.put, List.setIfInBounds_toArray, List.set_cons_zero, List.set_cons_succ, i64_w, i32_w]
      rfl
    refine pure_ (i := 5) (N := some 22) (v := ?_) (a' := ?_) #[true, false, false, true, false, true, false, false, false, false, false, false] rfl rfl (any_of HT_.out z64_19) (fun _ _ _ h => h) (Or.inl ⟨by rfl, ?_⟩) ?_ ?_
    rotate_left
    · intro w'
      go_simp
      with_reducible rfl
    rotate_left
    · simp only [Act.put, List.setIfInBounds_toArray, List.set_cons_zero, List.set_cons_succ, i64_w, i32_w]
      rfl
    refine pure_ (i := 6) (N := some 23) (v := ?_) (a' := ?_) #[true, false, false, true, false, true, true, false, false, false, false, false] rfl rfl (any_of HT_.out z64_19) (fun _ _ _ h => h) (Or.inl ⟨by rfl, ?_⟩) ?_ ?_
    rotate_left
    · intro w'
      go_simp
      with_reducible rfl
    rotate_left
    · simp only [Act.put, List.setIfInBounds_toArray, List.set_cons_zero, List.set_cons_succ, i64_w, i32_w]
      rfl
    refine pure_ (i := 7) (N := some 24) (v := ?_) (a' := ?_) #[true, false, false, true, false, true, true, true, false, false, false, false] rfl rfl (any_of HT_.out z64_19) (fun _ _ _ h => h) (Or.inl ⟨by rfl, ?_⟩) ?_ ?_
    rotate_left
    · intro w'
      go_simp
      with_reducible rfl
    rotate_left
    · simp only [Act.put, List.setIfInBounds_toArray, List.set_cons_zero, List.set_cons_succ, i64_w, i32_w]
      rfl
    refine take_ (i := 1) (N := some 18) (v := ?_) (a' := ?_) #[true, true, false, true, false, true, true, true, false, false, false, false] rfl rfl (take_ofW HT_.out HW_.out z64_19) (fun _ _ _ h => h) (Or.inl ⟨by rfl, ?_⟩) hHeld ?_ ?_
    rotate_left
    · rintro w' ⟨s0, s1, s2, s3, s4, s5, s6, s7, s8⟩
      go_simp
      with_reducible rfl
    rotate_left
    · simp only [Act.put, List.setIfInBounds_toArray, List.set_cons_zero, List.set_cons_succ, i64_w, i32_w]
      rfl
    refine take_ (i := 2) (N := some 19) (v := ?_) (a' := ?_) #[true, true, true, true, false, true, true, true, false, false, false, false] rfl rfl (take_ofW HT_.out HW_.out z64_19) (fun _ _ _ h => h) (Or.inl ⟨by rfl, ?_⟩) hHeld ?_ ?_
    rotate_left
    · rintro w' ⟨s0, s1, s2, s3, s4, s5, s6, s7, s8⟩
      go_simp
      with_reducible rfl
    rotate_left
    · simp only [Act.put, List.setIfInBounds_toArray, List.set_cons_zero, List.set_cons_succ, i64_w, i32_w]
      rfl
    refine join_ (σ := Nat) 1 #[true, true, true, true, true, true, true, true, true, true, true, false] (fun s_ => [(21, .int .i64 t308), (25, .int .i64 t309), (16, .pointer (some ⟨s_, 0, none⟩)), (26, .agg #[.int .i64 3, .int .i64 a2_0, .int .i64 t308, .int .i64 1, .int .i64 a5, .int .i64 t309])]) (fun s_ w' => (w'.cell? ⟨gb306, 0, none⟩ = some (.int .i64 a2_0) ∧ w'.cell? ⟨gb306, 1, none⟩ = some (.int .i64 a2_1) ∧ w'.cell? ⟨gb306, 2, none⟩ = some (.int .i64 a2_2) ∧ w'.cell? ⟨gb306, 3, none⟩ = some (.int .i64 a2_3) ∧ w'.cell? ⟨gb306, 4, none⟩ = some (.int .i64 a2_4) ∧ w'.cell? ⟨gb305, 0, none⟩ = some (.int .i64 a0_0) ∧ w'.cell? ⟨gb305, 1, none⟩ = some (.slice A0_1 l0_1.length c0_1) ∧ w'.cell? ⟨gb305, 2, none⟩ = some (.slice A0_2 l0_2.length c0_2) ∧ w'.cell? ⟨gb305, 3, none⟩ = some (.slice A0_3 l0_3.length c0_3)) ∧ (w'.heap[gb305]? = some (.cells #[.int .i64 a0_0, .slice A0_1 l0_1.length c0_1, .slice A0_2 l0_2.length c0_2, .slice A0_3 l0_3.length c0_3] 33 (0, 0))) ∧ (w'.heap[gb306]? = some (.cells #[.int .i64 a2_0, .int .i64 a2_1, .int .i64 a2_2, .int .i64 a2_3, .int .i64 a2_4] 45 (0, 0))) ∧ (w'.heap[gb307]? = some (.cells #[.int .i64 0, .int .i64 0, .int .i64 0, .int .i64 0, .int .i64 0, .int .i64 0] 83 (0, 0))) ∧ (w'.heap[s_]? = some (.cells #[.int .i64 0, .int .i64 0, .int .i64 0, .int .i64 0, .int .i64 0, .int .i64 0] 83 (0, 0))) ∧ (w.heap.size ≤ s_) ∧ (w.heap.size ≤ s_) ∧ (gb305 ≠ s_) ∧ (s_ ≠ gb305) ∧ (gb306 ≠ s_) ∧ (s_ ≠ gb306) ∧ (gb307 ≠ s_) ∧ (s_ ≠ gb307) ∧ (Below w.heap.size w w')) ?_ ?_
    rotate_left
    · intro hCont
      refine two_ (i := 4) (j := 10) (Ni := some 21) (Nj := some 16) #[true, true, true, true, true, true, true, true, false, false, false, false] #[true, true, true, true, false, true, true, true, false, false, true, false] rfl rfl rfl rfl (two_of HT_.out z64_19) (by decide) (by decide) (fun K hK => ?_) (fun K hK => ?_)
      · skip
        refine goes_ Try.func27 z64_19 rfl #[.agg #[.int .i64 a0_0, .slice A0_1 l0_1.length c0_1, .slice A0_2 l0_2.length c0_2, .slice A0_3 l0_3.length c0_3], .slice A3 l3.length c3] (by rfl) rfl rfl z64_5 ?_
        with_reducible refine (spec_AppraiseLog.calls k a0_0 _ _ l0_1 _ _ l0_2 _ _ l0_3 _ _ l3 t308 _ ?side1 ?side2 ?side3 ?side4 ?side5 ?side6 ?side7 ?side8 A8.out).mono ?_
        (case side1 => repeat (first | exact (Kd.C_below HR0_1.out HB.out) | (with_reducible refine Kd.C_alloc ?_ _) | (with_reducible refine Kd.C_drewN ?_ _) | (with_reducible refine Kd.C_drew ?_)))
        (case side2 => exact HC0_1.out)
        (case side3 => repeat (first | exact (Kd.C_below HR0_2.out HB.out) | (with_reducible refine Kd.C_alloc ?_ _) | (with_reducible refine Kd.C_drewN ?_ _) | (with_reducible refine Kd.C_drew ?_)))
        (case side4 => exact HC0_2.out)
        (case side5 => repeat (first | exact (Kd.C_below HR0_3.out HB.out) | (with_reducible refine Kd.C_alloc ?_ _) | (with_reducible refine Kd.C_drewN ?_ _) | (with_reducible refine Kd.C_drew ?_)))
        (case side6 => exact HC0_3.out)
        (case side7 => repeat (first | exact (Kd.C_below HR3.out HB.out) | (with_reducible refine Kd.C_alloc ?_ _) | (with_reducible refine Kd.C_drewN ?_ _) | (with_reducible refine Kd.C_drew ?_)))
        (case side8 => exact HC3.out)
        rintro e w67 ⟨rfl, hb⟩
        refine ⟨_, rfl, ?_⟩
        have n0_ := Aside0.mk (blk_below (g := gb305) (o := .cells #[.int .i64 a0_0, .slice A0_1 l0_1.length c0_1, .slice A0_2 l0_2.length c0_2, .slice A0_3 l0_3.length c0_3] 33 (0, 0)) (pB64_ BK305.out) hb)
        have n1_ := Aside0.mk (blk_below (g := gb306) (o := .cells #[.int .i64 a2_0, .int .i64 a2_1, .int .i64 a2_2, .int .i64 a2_3, .int .i64 a2_4] 45 (0, 0)) (pB64_ BK306.out) hb)
        have n2_ := Aside0.mk (blk_below (g := gb307) (o := .cells #[.int .i64 0, .int .i64 0, .int .i64 0, .int .i64 0, .int .i64 0, .int .i64 0] 83 (0, 0)) (pB64_ BK307.out) hb)
        have n3_ := Aside0.mk (below_step z64_0 hb)
        clear BK305
        clear BK306
        clear BK307
        clear HB
        have BK305 := n0_
        have BK306 := n1_
        have BK307 := n2_
        have HB := n3_
        clear n0_ n1_ n2_ n3_
        (try clear hb)
        (try clear hb2)
        (try clear hk)
        (try clear hi)
        refine hK.out _ _ ⟨(blk_cell BK306.out 0).trans rfl, (blk_cell BK306.out 1).trans rfl, (blk_cell BK306.out 2).trans rfl, (blk_cell BK306.out 3).trans rfl, (blk_cell BK306.out 4).trans rfl, (blk_cell BK305.out 0).trans rfl, (blk_cell BK305.out 1).trans rfl, (blk_cell BK305.out 2).trans rfl, (blk_cell BK305.out 3).trans rfl⟩ (fun hHeld => ?_)
        clear hK K
        refine norm_ (a' := ?_) ?_ ?_
        rotate_left
        · show Act.put _ (some 21) _ = _
          simp only [Act.put, List.setIfInBounds_toArray, List.set_cons_zero, List.set_cons_succ, i64_w, i32_w]
          rfl
        refine two_ (i := 8) (j := 10) (Ni := some 25) (Nj := some 16) #[true, true, true, true, true, true, true, true, true, false, false, false] #[true, true, true, true, true, true, true, true, false, false, true, false] rfl rfl rfl rfl (two_of HT_.out z64_19) (by decide) (by decide) (fun K hK => ?_) (fun K hK => ?_)
        · skip
          refine goes_ Try.func110 z64_19 rfl #[.int .i64 a5, .int .i64 a6] (by rfl) rfl rfl z64_5 ?_
          with_reducible refine (spec_EndOf.calls a5 a6 t309 _ A9.out).mono ?_
          rintro e w' ⟨rfl, ⟨nd, rfl⟩⟩
          refine ⟨_, rfl, ?_⟩
          refine hK.out _ _ ⟨(blk_cell BK306.out 0).trans rfl, (blk_cell BK306.out 1).trans rfl, (blk_cell BK306.out 2).trans rfl, (blk_cell BK306.out 3).trans rfl, (blk_cell BK306.out 4).trans rfl, (blk_cell BK305.out 0).trans rfl, (blk_cell BK305.out 1).trans rfl, (blk_cell BK305.out 2).trans rfl, (blk_cell BK305.out 3).trans rfl⟩ (fun hHeld => ?_)
          clear hK K
          refine norm_ (a' := ?_) ?_ ?_
          rotate_left
          · show Act.put _ (some 25) _ = _
            simp only [Act.put, List.setIfInBounds_toArray, List.set_cons_zero, List.set_cons_succ, i64_w, i32_w]
            rfl
          refine pure_ (i := 9) (N := some 26) (v := ?_) (a' := ?_) #[true, true, true, true, true, true, true, true, true, true, false, false] rfl rfl (any_of HT_.out z64_19) (fun _ _ _ h => h) (Or.inl ⟨by rfl, ?_⟩) ?_ ?_
          rotate_left
          · intro w'
            go_simp
            with_reducible rfl
          rotate_left
          · simp only [Act.put, List.setIfInBounds_toArray, List.set_cons_zero, List.set_cons_succ, i64_w, i32_w]
            rfl
          refine one_ (i := 10) (N := some 16) #[true, true, true, true, true, true, true, true, true, true, true, false] rfl rfl (one_of HT_.out z64_19) (by decide) (fun K hK => ?_)
          refine box_step ?hg (N := 16) ?hd (cs := #[.int .i64 0, .int .i64 0, .int .i64 0, .int .i64 0, .int .i64 0, .int .i64 0]) (t := 83) ?hr ?_; (case hd => rfl); (case hg => rfl); (case hr => first | (go_simp; done) | (go_simp; rfl))
          intro gb310 hg w68 hbox hb
          have n0_ := Aside0.mk (blk_below (g := gb305) (o := .cells #[.int .i64 a0_0, .slice A0_1 l0_1.length c0_1, .slice A0_2 l0_2.length c0_2, .slice A0_3 l0_3.length c0_3] 33 (0, 0)) (pB64_ BK305.out) hb)
          have n1_ := Aside0.mk (blk_below (g := gb306) (o := .cells #[.int .i64 a2_0, .int .i64 a2_1, .int .i64 a2_2, .int .i64 a2_3, .int .i64 a2_4] 45 (0, 0)) (pB64_ BK306.out) hb)
          have n2_ := Aside0.mk (blk_below (g := gb307) (o := .cells #[.int .i64 0, .int .i64 0, .int .i64 0, .int .i64 0, .int .i64 0, .int .i64 0] 83 (0, 0)) (pB64_ BK307.out) hb)
          have n3_ := Aside0.mk (below_step z64_0 hb)
          have n4_ := Aside0.mk (hbox)
          have n5_ := Aside0.mk ((z64_18 : w.heap.size ≤ gb310))
          have n6_ := Aside0.mk ((z64_18 : w.heap.size ≤ gb310))
          have n7_ := Aside0.mk ((z64_3 : gb305 ≠ gb310))
          have n8_ := Aside0.mk ((z64_4 : gb310 ≠ gb305))
          have n9_ := Aside0.mk ((z64_6 : gb306 ≠ gb310))
          have n10_ := Aside0.mk ((z64_7 : gb310 ≠ gb306))
          have n11_ := Aside0.mk ((z64_13 : gb307 ≠ gb310))
          have n12_ := Aside0.mk ((z64_14 : gb310 ≠ gb307))
          clear BK305
          clear BK306
          clear BK307
          clear HB
          have BK305 := n0_
          have BK306 := n1_
          have BK307 := n2_
          have HB := n3_
          have BK310 := n4_
          have GW310 := n5_
          have GE310 := n6_
          have NB305_310 := n7_
          have NB310_305 := n8_
          have NB306_310 := n9_
          have NB310_306 := n10_
          have NB307_310 := n11_
          have NB310_307 := n12_
          clear n0_ n1_ n2_ n3_ n4_ n5_ n6_ n7_ n8_ n9_ n10_ n11_ n12_
          clear hb hbox hg
          refine hK.out _ _ ⟨(blk_cell BK306.out 0).trans rfl, (blk_cell BK306.out 1).trans rfl, (blk_cell BK306.out 2).trans rfl, (blk_cell BK306.out 3).trans rfl, (blk_cell BK306.out 4).trans rfl, (blk_cell BK305.out 0).trans rfl, (blk_cell BK305.out 1).trans rfl, (blk_cell BK305.out 2).trans rfl, (blk_cell BK305.out 3).trans rfl⟩ (fun hHeld => ?_)
          clear hK K
          refine norm_ (a' := ?_) ?_ ?_
          rotate_left
          · show Act.put _ (some 16) _ = _
            simp only [Act.put, List.setIfInBounds_toArray, List.set_cons_zero, List.set_cons_succ, i64_w, i32_w]
            rfl
          exact norm_ z64_17 (hCont (gb310) _ ⟨hHeld, (pB64_ BK305.out), (pB64_ BK306.out), (pB64_ BK307.out), (pB64_ BK310.out), GW310.out, GE310.out, NB305_310.out, NB310_305.out, NB306_310.out, NB310_306.out, NB307_310.out, NB310_307.out, z64_1⟩)
        · skip
          refine box_step ?hg (N := 16) ?hd (cs := #[.int .i64 0, .int .i64 0, .int .i64 0, .int .i64 0, .int .i64 0, .int .i64 0]) (t := 83) ?hr ?_; (case hd => rfl); (case hg => rfl); (case hr => first | (go_simp; done) | (go_simp; rfl))
          intro gb310 hg w68 hbox hb
          have n0_ := Aside0.mk (blk_below (g := gb305) (o := .cells #[.int .i64 a0_0, .slice A0_1 l0_1.length c0_1, .slice A0_2 l0_2.length c0_2, .slice A0_3 l0_3.length c0_3] 33 (0, 0)) (pB64_ BK305.out) hb)
          have n1_ := Aside0.mk (blk_below (g := gb306) (o := .cells #[.int .i64 a2_0, .int .i64 a2_1, .int .i64 a2_2, .int .i64 a2_3, .int .i64 a2_4] 45 (0, 0)) (pB64_ BK306.out) hb)
          have n2_ := Aside0.mk (blk_below (g := gb307) (o := .cells #[.int .i64 0, .int .i64 0, .int .i64 0, .int .i64 0, .int .i64 0, .int .i64 0] 83 (0, 0)) (pB64_ BK307.out) hb)
          have n3_ := Aside0.mk (below_step z64_0 hb)
          have n4_ := Aside0.mk (hbox)
          have n5_ := Aside0.mk ((z64_18 : w.heap.size ≤ gb310))
          have n6_ := Aside0.mk ((z64_18 : w.heap.size ≤ gb310))
          have n7_ := Aside0.mk ((z64_3 : gb305 ≠ gb310))
          have n8_ := Aside0.mk ((z64_4 : gb310 ≠ gb305))
          have n9_ := Aside0.mk ((z64_6 : gb306 ≠ gb310))
          have n10_ := Aside0.mk ((z64_7 : gb310 ≠ gb306))
          have n11_ := Aside0.mk ((z64_13 : gb307 ≠ gb310))
          have n12_ := Aside0.mk ((z64_14 : gb310 ≠ gb307))
          clear BK305
          clear BK306
          clear BK307
          clear HB
          have BK305 := n0_
          have BK306 := n1_
          have BK307 := n2_
          have HB := n3_
          have BK310 := n4_
          have GW310 := n5_
          have GE310 := n6_
          have NB305_310 := n7_
          have NB310_305 := n8_
          have NB306_310 := n9_
          have NB310_306 := n10_
          have NB307_310 := n11_
          have NB310_307 := n12_
          clear n0_ n1_ n2_ n3_ n4_ n5_ n6_ n7_ n8_ n9_ n10_ n11_ n12_
          clear hb hbox hg
          refine hK.out _ _ ⟨(blk_cell BK306.out 0).trans rfl, (blk_cell BK306.out 1).trans rfl, (blk_cell BK306.out 2).trans rfl, (blk_cell BK306.out 3).trans rfl, (blk_cell BK306.out 4).trans rfl, (blk_cell BK305.out 0).trans rfl, (blk_cell BK305.out 1).trans rfl, (blk_cell BK305.out 2).trans rfl, (blk_cell BK305.out 3).trans rfl⟩ (fun hHeld => ?_)
          clear hK K
          refine norm_ (a' := ?_) ?_ ?_
          rotate_left
          · show Act.put _ (some 16) _ = _
            simp only [Act.put, List.setIfInBounds_toArray, List.set_cons_zero, List.set_cons_succ, i64_w, i32_w]
            rfl
          refine one_ (i := 8) (N := some 25) #[true, true, true, true, true, true, true, true, true, false, true, false] rfl rfl (one_of HT_.out z64_19) (by decide) (fun K hK => ?_)
          refine goes_ Try.func110 z64_19 rfl #[.int .i64 a5, .int .i64 a6] (by rfl) rfl rfl z64_5 ?_
          with_reducible refine (spec_EndOf.calls a5 a6 t309 _ A9.out).mono ?_
          rintro e w' ⟨rfl, ⟨nd, rfl⟩⟩
          refine ⟨_, rfl, ?_⟩
          refine hK.out _ _ ⟨(blk_cell BK306.out 0).trans rfl, (blk_cell BK306.out 1).trans rfl, (blk_cell BK306.out 2).trans rfl, (blk_cell BK306.out 3).trans rfl, (blk_cell BK306.out 4).trans rfl, (blk_cell BK305.out 0).trans rfl, (blk_cell BK305.out 1).trans rfl, (blk_cell BK305.out 2).trans rfl, (blk_cell BK305.out 3).trans rfl⟩ (fun hHeld => ?_)
          clear hK K
          refine norm_ (a' := ?_) ?_ ?_
          rotate_left
          · show Act.put _ (some 25) _ = _
            simp only [Act.put, List.setIfInBounds_toArray, List.set_cons_zero, List.set_cons_succ, i64_w, i32_w]
            rfl
          refine pure_ (i := 9) (N := some 26) (v := ?_) (a' := ?_) #[true, true, true, true, true, true, true, true, true, true, true, false] rfl rfl (any_of HT_.out z64_19) (fun _ _ _ h => h) (Or.inl ⟨by rfl, ?_⟩) ?_ ?_
          rotate_left
          · intro w'
            go_simp
            with_reducible rfl
          rotate_left
          · simp only [Act.put, List.setIfInBounds_toArray, List.set_cons_zero, List.set_cons_succ, i64_w, i32_w]
            rfl
          exact norm_ z64_17 (hCont (gb310) _ ⟨hHeld, (pB64_ BK305.out), (pB64_ BK306.out), (pB64_ BK307.out), (pB64_ BK310.out), GW310.out, GE310.out, NB305_310.out, NB310_305.out, NB306_310.out, NB310_306.out, NB307_310.out, NB310_307.out, z64_1⟩)
      · skip
        refine box_step ?hg (N := 16) ?hd (cs := #[.int .i64 0, .int .i64 0, .int .i64 0, .int .i64 0, .int .i64 0, .int .i64 0]) (t := 83) ?hr ?_; (case hd => rfl); (case hg => rfl); (case hr => first | (go_simp; done) | (go_simp; rfl))
        intro gb310 hg w67 hbox hb
        have n0_ := Aside0.mk (blk_below (g := gb305) (o := .cells #[.int .i64 a0_0, .slice A0_1 l0_1.length c0_1, .slice A0_2 l0_2.length c0_2, .slice A0_3 l0_3.length c0_3] 33 (0, 0)) (pB64_ BK305.out) hb)
        have n1_ := Aside0.mk (blk_below (g := gb306) (o := .cells #[.int .i64 a2_0, .int .i64 a2_1, .int .i64 a2_2, .int .i64 a2_3, .int .i64 a2_4] 45 (0, 0)) (pB64_ BK306.out) hb)
        have n2_ := Aside0.mk (blk_below (g := gb307) (o := .cells #[.int .i64 0, .int .i64 0, .int .i64 0, .int .i64 0, .int .i64 0, .int .i64 0] 83 (0, 0)) (pB64_ BK307.out) hb)
        have n3_ := Aside0.mk (below_step z64_0 hb)
        have n4_ := Aside0.mk (hbox)
        have n5_ := Aside0.mk ((z64_18 : w.heap.size ≤ gb310))
        have n6_ := Aside0.mk ((z64_18 : w.heap.size ≤ gb310))
        have n7_ := Aside0.mk ((z64_3 : gb305 ≠ gb310))
        have n8_ := Aside0.mk ((z64_4 : gb310 ≠ gb305))
        have n9_ := Aside0.mk ((z64_6 : gb306 ≠ gb310))
        have n10_ := Aside0.mk ((z64_7 : gb310 ≠ gb306))
        have n11_ := Aside0.mk ((z64_13 : gb307 ≠ gb310))
        have n12_ := Aside0.mk ((z64_14 : gb310 ≠ gb307))
        clear BK305
        clear BK306
        clear BK307
        clear HB
        have BK305 := n0_
        have BK306 := n1_
        have BK307 := n2_
        have HB := n3_
        have BK310 := n4_
        have GW310 := n5_
        have GE310 := n6_
        have NB305_310 := n7_
        have NB310_305 := n8_
        have NB306_310 := n9_
        have NB310_306 := n10_
        have NB307_310 := n11_
        have NB310_307 := n12_
        clear n0_ n1_ n2_ n3_ n4_ n5_ n6_ n7_ n8_ n9_ n10_ n11_ n12_
        clear hb hbox hg
        refine hK.out _ _ ⟨(blk_cell BK306.out 0).trans rfl, (blk_cell BK306.out 1).trans rfl, (blk_cell BK306.out 2).trans rfl, (blk_cell BK306.out 3).trans rfl, (blk_cell BK306.out 4).trans rfl, (blk_cell BK305.out 0).trans rfl, (blk_cell BK305.out 1).trans rfl, (blk_cell BK305.out 2).trans rfl, (blk_cell BK305.out 3).trans rfl⟩ (fun hHeld => ?_)
        clear hK K
        refine norm_ (a' := ?_) ?_ ?_
        rotate_left
        · show Act.put _ (some 16) _ = _
          simp only [Act.put, List.setIfInBounds_toArray, List.set_cons_zero, List.set_cons_succ, i64_w, i32_w]
          rfl
        refine one_ (i := 4) (N := some 21) #[true, true, true, true, true, true, true, true, false, false, true, false] rfl rfl (one_of HT_.out z64_19) (by decide) (fun K hK => ?_)
        refine goes_ Try.func27 z64_19 rfl #[.agg #[.int .i64 a0_0, .slice A0_1 l0_1.length c0_1, .slice A0_2 l0_2.length c0_2, .slice A0_3 l0_3.length c0_3], .slice A3 l3.length c3] (by rfl) rfl rfl z64_5 ?_
        with_reducible refine (spec_AppraiseLog.calls k a0_0 _ _ l0_1 _ _ l0_2 _ _ l0_3 _ _ l3 t308 _ ?side1 ?side2 ?side3 ?side4 ?side5 ?side6 ?side7 ?side8 A8.out).mono ?_
        (case side1 => repeat (first | exact (Kd.C_below HR0_1.out HB.out) | (with_reducible refine Kd.C_alloc ?_ _) | (with_reducible refine Kd.C_drewN ?_ _) | (with_reducible refine Kd.C_drew ?_)))
        (case side2 => exact HC0_1.out)
        (case side3 => repeat (first | exact (Kd.C_below HR0_2.out HB.out) | (with_reducible refine Kd.C_alloc ?_ _) | (with_reducible refine Kd.C_drewN ?_ _) | (with_reducible refine Kd.C_drew ?_)))
        (case side4 => exact HC0_2.out)
        (case side5 => repeat (first | exact (Kd.C_below HR0_3.out HB.out) | (with_reducible refine Kd.C_alloc ?_ _) | (with_reducible refine Kd.C_drewN ?_ _) | (with_reducible refine Kd.C_drew ?_)))
        (case side6 => exact HC0_3.out)
        (case side7 => repeat (first | exact (Kd.C_below HR3.out HB.out) | (with_reducible refine Kd.C_alloc ?_ _) | (with_reducible refine Kd.C_drewN ?_ _) | (with_reducible refine Kd.C_drew ?_)))
        (case side8 => exact HC3.out)
        rintro e w68 ⟨rfl, hb⟩
        refine ⟨_, rfl, ?_⟩
        have n0_ := Aside0.mk (blk_below (g := gb305) (o := .cells #[.int .i64 a0_0, .slice A0_1 l0_1.length c0_1, .slice A0_2 l0_2.length c0_2, .slice A0_3 l0_3.length c0_3] 33 (0, 0)) (pB64_ BK305.out) hb)
        have n1_ := Aside0.mk (blk_below (g := gb306) (o := .cells #[.int .i64 a2_0, .int .i64 a2_1, .int .i64 a2_2, .int .i64 a2_3, .int .i64 a2_4] 45 (0, 0)) (pB64_ BK306.out) hb)
        have n2_ := Aside0.mk (blk_below (g := gb307) (o := .cells #[.int .i64 0, .int .i64 0, .int .i64 0, .int .i64 0, .int .i64 0, .int .i64 0] 83 (0, 0)) (pB64_ BK307.out) hb)
        have n3_ := Aside0.mk (blk_below (g := gb310) (o := .cells #[.int .i64 0, .int .i64 0, .int .i64 0, .int .i64 0, .int .i64 0, .int .i64 0] 83 (0, 0)) (pB64_ BK310.out) hb)
        have n4_ := Aside0.mk (below_step z64_1 hb)
        clear BK305
        clear BK306
        clear BK307
        clear BK310
        clear HB
        have BK305 := n0_
        have BK306 := n1_
        have BK307 := n2_
        have BK310 := n3_
        have HB := n4_
        clear n0_ n1_ n2_ n3_ n4_
        (try clear hb)
        (try clear hb2)
        (try clear hk)
        (try clear hi)
        refine hK.out _ _ ⟨(blk_cell BK306.out 0).trans rfl, (blk_cell BK306.out 1).trans rfl, (blk_cell BK306.out 2).trans rfl, (blk_cell BK306.out 3).trans rfl, (blk_cell BK306.out 4).trans rfl, (blk_cell BK305.out 0).trans rfl, (blk_cell BK305.out 1).trans rfl, (blk_cell BK305.out 2).trans rfl, (blk_cell BK305.out 3).trans rfl⟩ (fun hHeld => ?_)
        clear hK K
        refine norm_ (a' := ?_) ?_ ?_
        rotate_left
        · show Act.put _ (some 21) _ = _
          simp only [Act.put, List.setIfInBounds_toArray, List.set_cons_zero, List.set_cons_succ, i64_w, i32_w]
          rfl
        refine one_ (i := 8) (N := some 25) #[true, true, true, true, true, true, true, true, true, false, true, false] rfl rfl (one_of HT_.out z64_19) (by decide) (fun K hK => ?_)
        refine goes_ Try.func110 z64_19 rfl #[.int .i64 a5, .int .i64 a6] (by rfl) rfl rfl z64_5 ?_
        with_reducible refine (spec_EndOf.calls a5 a6 t309 _ A9.out).mono ?_
        rintro e w' ⟨rfl, ⟨nd, rfl⟩⟩
        refine ⟨_, rfl, ?_⟩
        refine hK.out _ _ ⟨(blk_cell BK306.out 0).trans rfl, (blk_cell BK306.out 1).trans rfl, (blk_cell BK306.out 2).trans rfl, (blk_cell BK306.out 3).trans rfl, (blk_cell BK306.out 4).trans rfl, (blk_cell BK305.out 0).trans rfl, (blk_cell BK305.out 1).trans rfl, (blk_cell BK305.out 2).trans rfl, (blk_cell BK305.out 3).trans rfl⟩ (fun hHeld => ?_)
        clear hK K
        refine norm_ (a' := ?_) ?_ ?_
        rotate_left
        · show Act.put _ (some 25) _ = _
          simp only [Act.put, List.setIfInBounds_toArray, List.set_cons_zero, List.set_cons_succ, i64_w, i32_w]
          rfl
        refine pure_ (i := 9) (N := some 26) (v := ?_) (a' := ?_) #[true, true, true, true, true, true, true, true, true, true, true, false] rfl rfl (any_of HT_.out z64_19) (fun _ _ _ h => h) (Or.inl ⟨by rfl, ?_⟩) ?_ ?_
        rotate_left
        · intro w'
          go_simp
          with_reducible rfl
        rotate_left
        · simp only [Act.put, List.setIfInBounds_toArray, List.set_cons_zero, List.set_cons_succ, i64_w, i32_w]
          rfl
        exact norm_ z64_17 (hCont (gb310) _ ⟨hHeld, (pB64_ BK305.out), (pB64_ BK306.out), (pB64_ BK307.out), (pB64_ BK310.out), GW310.out, GE310.out, NB305_310.out, NB310_305.out, NB306_310.out, NB310_306.out, NB307_310.out, NB310_307.out, z64_1⟩)
    rintro gb310 w69 ⟨hS_, h0_, h1_, h2_, h3_, h4_, h5_, h6_, h7_, h8_, h9_, h10_, h11_, h12_⟩
    have n0_ : Aside0 (w69.heap[gb305]? = some (.cells #[.int .i64 a0_0, .slice A0_1 l0_1.length c0_1, .slice A0_2 l0_2.length c0_2, .slice A0_3 l0_3.length c0_3] 33 (0, 0))) := ⟨h0_⟩
    have n1_ : Aside0 (w69.heap[gb306]? = some (.cells #[.int .i64 a2_0, .int .i64 a2_1, .int .i64 a2_2, .int .i64 a2_3, .int .i64 a2_4] 45 (0, 0))) := ⟨h1_⟩
    have n2_ : Aside0 (w69.heap[gb307]? = some (.cells #[.int .i64 0, .int .i64 0, .int .i64 0, .int .i64 0, .int .i64 0, .int .i64 0] 83 (0, 0))) := ⟨h2_⟩
    have n3_ : Aside0 (w69.heap[gb310]? = some (.cells #[.int .i64 0, .int .i64 0, .int .i64 0, .int .i64 0, .int .i64 0, .int .i64 0] 83 (0, 0))) := ⟨h3_⟩
    have n4_ : Aside0 (w.heap.size ≤ gb310) := ⟨h4_⟩
    have n5_ : Aside0 (w.heap.size ≤ gb310) := ⟨h5_⟩
    have n6_ : Aside0 (gb305 ≠ gb310) := ⟨h6_⟩
    have n7_ : Aside0 (gb310 ≠ gb305) := ⟨h7_⟩
    have n8_ : Aside0 (gb306 ≠ gb310) := ⟨h8_⟩
    have n9_ : Aside0 (gb310 ≠ gb306) := ⟨h9_⟩
    have n10_ : Aside0 (gb307 ≠ gb310) := ⟨h10_⟩
    have n11_ : Aside0 (gb310 ≠ gb307) := ⟨h11_⟩
    have n12_ : Aside0 (Below w.heap.size w w69) := ⟨h12_⟩
    clear BK305
    clear BK306
    clear BK307
    clear HB
    clear h0_ h1_ h2_ h3_ h4_ h5_ h6_ h7_ h8_ h9_ h10_ h11_ h12_
    have BK305 := n0_
    have BK306 := n1_
    have BK307 := n2_
    have BK310 := n3_
    have GW310 := n4_
    have GE310 := n5_
    have NB305_310 := n6_
    have NB310_305 := n7_
    have NB306_310 := n8_
    have NB310_306 := n9_
    have NB307_310 := n10_
    have NB310_307 := n11_
    have HB := n12_
    clear n0_ n1_ n2_ n3_ n4_ n5_ n6_ n7_ n8_ n9_ n10_ n11_ n12_
    have hHeld : w69.cell? ⟨gb306, 0, none⟩ = some (.int .i64 a2_0) ∧ w69.cell? ⟨gb306, 1, none⟩ = some (.int .i64 a2_1) ∧ w69.cell? ⟨gb306, 2, none⟩ = some (.int .i64 a2_2) ∧ w69.cell? ⟨gb306, 3, none⟩ = some (.int .i64 a2_3) ∧ w69.cell? ⟨gb306, 4, none⟩ = some (.int .i64 a2_4) ∧ w69.cell? ⟨gb305, 0, none⟩ = some (.int .i64 a0_0) ∧ w69.cell? ⟨gb305, 1, none⟩ = some (.slice A0_1 l0_1.length c0_1) ∧ w69.cell? ⟨gb305, 2, none⟩ = some (.slice A0_2 l0_2.length c0_2) ∧ w69.cell? ⟨gb305, 3, none⟩ = some (.slice A0_3 l0_3.length c0_3) := hS_
    refine norm_ (a' := ?_) ?_ ?_
    rotate_left
    · simp only [putAll, Act.put, List.setIfInBounds_toArray, List.set_cons_zero, List.set_cons_succ]
      rfl
    refine one_ (i := 11) (N := none) #[true, true, true, true, true, true, true, true, true, true, true, true] rfl rfl (one_of HT_.out z64_19) (by decide) (fun K hK => ?_)
    have hs70 : w69.cell? ⟨gb310, 0, none⟩ = some (.int .i64 0) := (blk_cell BK310.out 0).trans rfl
    have hfs70 := blk_frozen BK310.out 0
    have hns70_0 := NB305_310.out
    have hns70_1 := NB306_310.out
    have hns70_2 := NB307_310.out
    have hms70_0 := NB310_305.out
    have hms70_1 := NB310_306.out
    have hms70_2 := NB310_307.out
    have hs71 : w69.cell? ⟨gb310, 1, none⟩ = some (.int .i64 0) := (blk_cell BK310.out 1).trans rfl
    have hfs71 := blk_frozen BK310.out 1
    have hns71_0 := NB305_310.out
    have hns71_1 := NB306_310.out
    have hns71_2 := NB307_310.out
    have hms71_0 := NB310_305.out
    have hms71_1 := NB310_306.out
    have hms71_2 := NB310_307.out
    have hs72 : w69.cell? ⟨gb310, 2, none⟩ = some (.int .i64 0) := (blk_cell BK310.out 2).trans rfl
    have hfs72 := blk_frozen BK310.out 2
    have hns72_0 := NB305_310.out
    have hns72_1 := NB306_310.out
    have hns72_2 := NB307_310.out
    have hms72_0 := NB310_305.out
    have hms72_1 := NB310_306.out
    have hms72_2 := NB310_307.out
    have hs73 : w69.cell? ⟨gb310, 3, none⟩ = some (.int .i64 0) := (blk_cell BK310.out 3).trans rfl
    have hfs73 := blk_frozen BK310.out 3
    have hns73_0 := NB305_310.out
    have hns73_1 := NB306_310.out
    have hns73_2 := NB307_310.out
    have hms73_0 := NB310_305.out
    have hms73_1 := NB310_306.out
    have hms73_2 := NB310_307.out
    have hs74 : w69.cell? ⟨gb310, 4, none⟩ = some (.int .i64 0) := (blk_cell BK310.out 4).trans rfl
    have hfs74 := blk_frozen BK310.out 4
    have hns74_0 := NB305_310.out
    have hns74_1 := NB306_310.out
    have hns74_2 := NB307_310.out
    have hms74_0 := NB310_305.out
    have hms74_1 := NB310_306.out
    have hms74_2 := NB310_307.out
    have hs75 : w69.cell? ⟨gb310, 5, none⟩ = some (.int .i64 0) := (blk_cell BK310.out 5).trans rfl
    have hfs75 := blk_frozen BK310.out 5
    have hns75_0 := NB305_310.out
    have hns75_1 := NB306_310.out
    have hns75_2 := NB307_310.out
    have hms75_0 := NB310_305.out
    have hms75_1 := NB310_306.out
    have hms75_2 := NB310_307.out
    refine skip_ (w1 := ?_) (by rfl) rfl ?_ ?_
    rotate_left
    · go_simp
      rfl
    refine hK.out _ _ ⟨((cell_far (p := ⟨gb310, _, none⟩) NB306_310.out _).trans (((cell_far (p := ⟨gb310, _, none⟩) NB306_310.out _).trans (((cell_far (p := ⟨gb310, _, none⟩) NB306_310.out _).trans (((cell_far (p := ⟨gb310, _, none⟩) NB306_310.out _).trans (((cell_far (p := ⟨gb310, _, none⟩) NB306_310.out _).trans (((cell_far (p := ⟨gb310, _, none⟩) NB306_310.out _).trans (hHeld.1)))))))))))), ((cell_far (p := ⟨gb310, _, none⟩) NB306_310.out _).trans (((cell_far (p := ⟨gb310, _, none⟩) NB306_310.out _).trans (((cell_far (p := ⟨gb310, _, none⟩) NB306_310.out _).trans (((cell_far (p := ⟨gb310, _, none⟩) NB306_310.out _).trans (((cell_far (p := ⟨gb310, _, none⟩) NB306_310.out _).trans (((cell_far (p := ⟨gb310, _, none⟩) NB306_310.out _).trans (hHeld.2.1)))))))))))), ((cell_far (p := ⟨gb310, _, none⟩) NB306_310.out _).trans (((cell_far (p := ⟨gb310, _, none⟩) NB306_310.out _).trans (((cell_far (p := ⟨gb310, _, none⟩) NB306_310.out _).trans (((cell_far (p := ⟨gb310, _, none⟩) NB306_310.out _).trans (((cell_far (p := ⟨gb310, _, none⟩) NB306_310.out _).trans (((cell_far (p := ⟨gb310, _, none⟩) NB306_310.out _).trans (hHeld.2.2.1)))))))))))), ((cell_far (p := ⟨gb310, _, none⟩) NB306_310.out _).trans (((cell_far (p := ⟨gb310, _, none⟩) NB306_310.out _).trans (((cell_far (p := ⟨gb310, _, none⟩) NB306_310.out _).trans (((cell_far (p := ⟨gb310, _, none⟩) NB306_310.out _).trans (((cell_far (p := ⟨gb310, _, none⟩) NB306_310.out _).trans (((cell_far (p := ⟨gb310, _, none⟩) NB306_310.out _).trans (hHeld.2.2.2.1)))))))))))), ((cell_far (p := ⟨gb310, _, none⟩) NB306_310.out _).trans (((cell_far (p := ⟨gb310, _, none⟩) NB306_310.out _).trans (((cell_far (p := ⟨gb310, _, none⟩) NB306_310.out _).trans (((cell_far (p := ⟨gb310, _, none⟩) NB306_310.out _).trans (((cell_far (p := ⟨gb310, _, none⟩) NB306_310.out _).trans (((cell_far (p := ⟨gb310, _, none⟩) NB306_310.out _).trans (hHeld.2.2.2.2.1)))))))))))), ((cell_far (p := ⟨gb310, _, none⟩) NB305_310.out _).trans (((cell_far (p := ⟨gb310, _, none⟩) NB305_310.out _).trans (((cell_far (p := ⟨gb310, _, none⟩) NB305_310.out _).trans (((cell_far (p := ⟨gb310, _, none⟩) NB305_310.out _).trans (((cell_far (p := ⟨gb310, _, none⟩) NB305_310.out _).trans (((cell_far (p := ⟨gb310, _, none⟩) NB305_310.out _).trans (hHeld.2.2.2.2.2.1)))))))))))), ((cell_far (p := ⟨gb310, _, none⟩) NB305_310.out _).trans (((cell_far (p := ⟨gb310, _, none⟩) NB305_310.out _).trans (((cell_far (p := ⟨gb310, _, none⟩) NB305_310.out _).trans (((cell_far (p := ⟨gb310, _, none⟩) NB305_310.out _).trans (((cell_far (p := ⟨gb310, _, none⟩) NB305_310.out _).trans (((cell_far (p := ⟨gb310, _, none⟩) NB305_310.out _).trans (hHeld.2.2.2.2.2.2.1)))))))))))), ((cell_far (p := ⟨gb310, _, none⟩) NB305_310.out _).trans (((cell_far (p := ⟨gb310, _, none⟩) NB305_310.out _).trans (((cell_far (p := ⟨gb310, _, none⟩) NB305_310.out _).trans (((cell_far (p := ⟨gb310, _, none⟩) NB305_310.out _).trans (((cell_far (p := ⟨gb310, _, none⟩) NB305_310.out _).trans (((cell_far (p := ⟨gb310, _, none⟩) NB305_310.out _).trans (hHeld.2.2.2.2.2.2.2.1)))))))))))), ((cell_far (p := ⟨gb310, _, none⟩) NB305_310.out _).trans (((cell_far (p := ⟨gb310, _, none⟩) NB305_310.out _).trans (((cell_far (p := ⟨gb310, _, none⟩) NB305_310.out _).trans (((cell_far (p := ⟨gb310, _, none⟩) NB305_310.out _).trans (((cell_far (p := ⟨gb310, _, none⟩) NB305_310.out _).trans (((cell_far (p := ⟨gb310, _, none⟩) NB305_310.out _).trans (hHeld.2.2.2.2.2.2.2.2))))))))))))⟩ (fun hHeld => ?_)
    clear hK K
    refine done_ (done_of HT_.out z64_19) ?_
    have hnb76 := NB306_305.out
    have hnc76 := NB305_306.out
    have hnb77 := NB306_307.out
    have hnc77 := NB307_306.out
    have hnb78 := NB306_310.out
    have hnc78 := NB310_306.out
    have hcz79_0 : w69.cell? ⟨gb306, 0, none⟩ = some (.int .i64 a2_0) := (blk_cell BK306.out 0).trans rfl
    have hcz79_1 : w69.cell? ⟨gb306, 1, none⟩ = some (.int .i64 a2_1) := (blk_cell BK306.out 1).trans rfl
    have hcz79_2 : w69.cell? ⟨gb306, 2, none⟩ = some (.int .i64 a2_2) := (blk_cell BK306.out 2).trans rfl
    have hcz79_3 : w69.cell? ⟨gb306, 3, none⟩ = some (.int .i64 a2_3) := (blk_cell BK306.out 3).trans rfl
    have hcz79_4 : w69.cell? ⟨gb306, 4, none⟩ = some (.int .i64 a2_4) := (blk_cell BK306.out 4).trans rfl
    have hfz79_0 := blk_frozen BK306.out 0
    have hfz79_1 := blk_frozen BK306.out 1
    have hfz79_2 := blk_frozen BK306.out 2
    have hfz79_3 := blk_frozen BK306.out 3
    have hfz79_4 := blk_frozen BK306.out 4
    try go_wp2_with (first | ((with_reducible refine gate_callee (f := 36) rfl ?_); refine goesL_ (some 32) rfl rfl Try.func36 z64_19 rfl #[.int .i64 a1, .agg #[.int .i64 a2_0, .int .i64 a2_1, .int .i64 a2_2, .int .i64 a2_3, .int .i64 a2_4], .slice A3 l3.length c3, .int .i64 a4, .int .i64 a5, .int .i64 5] rfl z64_5 ?_; (with_reducible refine (spec_CheckQuote.calls k a1 a2_0 a2_1 a2_2 a2_3 a2_4 _ _ l3 a4 a5 5 false _ ?side1 ?side2 A10.out).mono ?_); (case side1 => exact Kd.C_below HR3.out z64_1); (case side2 => exact HC3.out); rintro e w80 ⟨rfl, hb⟩; refine ⟨_, rfl, ?_⟩; have n0_ := Aside0.mk (blk_below (g := gb305) (o := .cells #[.int .i64 a0_0, .slice A0_1 l0_1.length c0_1, .slice A0_2 l0_2.length c0_2, .slice A0_3 l0_3.length c0_3] 33 (0, 0)) z64_10 hb); have n1_ := Aside0.mk (blk_below (g := gb306) (o := .cells #[.int .i64 a2_0, .int .i64 a2_1, .int .i64 a2_2, .int .i64 a2_3, .int .i64 a2_4] 45 (0, 0)) z64_9 hb); have n2_ := Aside0.mk (blk_below (g := gb307) (o := .cells #[.int .i64 0, .int .i64 0, .int .i64 0, .int .i64 0, .int .i64 0, .int .i64 0] 83 (0, 0)) z64_8 hb); have n3_ := Aside0.mk (blk_below (g := gb310) (o := .cells #[.int .i64 3, .int .i64 a2_0, .int .i64 t308, .int .i64 1, .int .i64 a5, .int .i64 t309] 83 (0, 0)) z64_2 hb); have n4_ := Aside0.mk (below_step z64_1 hb); clear BK305; clear BK306; clear BK307; clear BK310; clear HB; have BK305 := n0_; have BK306 := n1_; have BK307 := n2_; have BK310 := n3_; have HB := n4_; clear n0_ n1_ n2_ n3_ n4_; (try clear hb); (try clear hb2); (try clear hk); (try clear hi); have hnb81 := NB307_305.out; have hnc81 := NB305_307.out; have hnb82 := NB307_310.out; have hnc82 := NB310_307.out; have hcz83_0 : w80.cell? ⟨gb307, 0, none⟩ = some (.int .i64 0) := (blk_cell BK307.out 0).trans rfl; have hcz83_1 : w80.cell? ⟨gb307, 1, none⟩ = some (.int .i64 0) := (blk_cell BK307.out 1).trans rfl; have hcz83_2 : w80.cell? ⟨gb307, 2, none⟩ = some (.int .i64 0) := (blk_cell BK307.out 2).trans rfl; have hcz83_3 : w80.cell? ⟨gb307, 3, none⟩ = some (.int .i64 0) := (blk_cell BK307.out 3).trans rfl; have hcz83_4 : w80.cell? ⟨gb307, 4, none⟩ = some (.int .i64 0) := (blk_cell BK307.out 4).trans rfl; have hcz83_5 : w80.cell? ⟨gb307, 5, none⟩ = some (.int .i64 0) := (blk_cell BK307.out 5).trans rfl; have hfz83_0 := blk_frozen BK307.out 0; have hfz83_1 := blk_frozen BK307.out 1; have hfz83_2 := blk_frozen BK307.out 2; have hfz83_3 := blk_frozen BK307.out 3; have hfz83_4 := blk_frozen BK307.out 4; have hfz83_5 := blk_frozen BK307.out 5))
    refine bodyPost_ret (results_ct rfl _ _ gb307 83 #[.int .i64 0, .int .i64 0, .int .i64 0, .int .i64 0, .int .i64 0, .int .i64 0] (0, 0) _ rfl z64_12 Try.underlying83 rfl z64_19) rfl ?_
    exact ⟨by first | rfl | (simp [errW_none, errW_some] <;> rfl) | (simp [*, errW_none, errW_some] <;> rfl), by repeat (first | (with_reducible first | exact HB.out | apply below_alloc | apply pw_below_drewN | apply below_drew1 | refine below_set ?_ GE305.out | refine below_set ?_ GE306.out | refine below_set ?_ GE307.out | refine below_set ?_ GE310.out) | exact HB.out)⟩

end Go.Proofs.Ytlmhemcpkmjkiaa.XFnExactHealthFact
