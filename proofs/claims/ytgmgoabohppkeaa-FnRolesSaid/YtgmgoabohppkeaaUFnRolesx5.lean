/- Written by this session's own program (wip/xprint, which runs over the kit's print): what the functions that the law reaches come to, each proved; and the law's row. Conditions: none. -/
import Derived.Test.YtgmgoabohppkeaaUFnRolesx0
import Derived.Test.YtgmgoabohppkeaaUFnRolesx2
import Derived.Test.YtgmgoabohppkeaaUFnRolesx4
namespace Go.Proofs.Ytgmgoabohppkeaa.XFnRoles
open Go.RowKit Go.Proofs.YtgmgoabohppkeaaW.PrintWords Go.Proofs.YtgmgoabohppkeaaW.PrintLast Go.Proofs.YtgmgoabohppkeaaW.PrintMore
attribute [local go_sem] max2_int min2_int max_two min_two max_three min_three max_four min_four   -- for this text's walks alone
set_option linter.unusedVariables false
set_option linter.unusedSimpArgs false

/-! ### spec_IsFact: function 94 -/
def spec_IsFact.f (a0_0 : Int) (a0_1 : Int) (a0_2 : Int) (a0_3 : Int) (a0_4 : Int) (a0_5 : Int) : Option (Bool) := if a0_0 = 1 then ((spec_HasKind.f a0_1 1).bind fun t212 => (if t212 = true then ((spec_l1In.f a0_2 0 5).bind fun t213 => (if t213 = true then ((spec_l1In.f a0_3 0 9).bind fun t214 => (if t214 = true then ((spec_IsTime.f a0_4).bind fun t215 => (if t215 = true then ((spec_IsTime.f a0_5).bind fun t216 => (if t216 = true then (some (decide (a0_4 ≤ a0_5))) else (some false))) else (some false))) else (some false))) else (some false))) else (some false))) else (if a0_0 = 2 then ((spec_HasKind.f a0_1 1).bind fun t217 => (if t217 = true then ((spec_HasKind.f a0_2 2).bind fun t218 => (if t218 = true then ((spec_l1In.f a0_3 0 9).bind fun t219 => (if t219 = true then ((spec_IsTime.f a0_4).bind fun t220 => (if t220 = true then ((spec_IsTime.f a0_5).bind fun t221 => (if t221 = true then (some (decide (a0_4 ≤ a0_5))) else (some false))) else (some false))) else (some false))) else (some false))) else (some false))) else (if a0_0 = 3 then ((spec_HasKind.f a0_1 2).bind fun t222 => (if t222 = true then ((spec_l1In.f a0_2 0 3).bind fun t223 => (if t223 = true then ((spec_l1In.f a0_3 0 9).bind fun t224 => (if t224 = true then ((spec_IsTime.f a0_4).bind fun t225 => (if t225 = true then ((spec_IsTime.f a0_5).bind fun t226 => (if t226 = true then (some (decide (a0_4 ≤ a0_5))) else (some false))) else (some false))) else (some false))) else (some false))) else (some false))) else (if a0_0 = 4 then ((spec_HasKind.f a0_1 3).bind fun t227 => (if t227 = true then ((spec_l1In.f a0_2 0 3).bind fun t228 => (if t228 = true then ((spec_l1In.f a0_3 0 9).bind fun t229 => (if t229 = true then ((spec_IsTime.f a0_4).bind fun t230 => (if t230 = true then ((spec_IsTime.f a0_5).bind fun t231 => (if t231 = true then (some (decide (a0_4 ≤ a0_5))) else (some false))) else (some false))) else (some false))) else (some false))) else (some false))) else (some false))))
theorem z94_0 {Q : Prop} (g : Q := by repeat (first | (with_reducible first | exact HB.out | apply bA_ | apply bN_ | apply bD_) | exact HB.out)) : Q := g
theorem z94_1 {Q : Prop} (g : Q := by (try simp only [List.map_toArray, List.map_cons, List.map_nil]); first | done | rfl | (simp only [List.length_drop, List.length_take]; rfl)) : Q := g
theorem z94_2 {Q : Prop} (g : Q := by rw [hg]; exact (below_size z94_0)) : Q := g
set_option maxHeartbeats 8000000 in
set_option maxRecDepth 100000 in
theorem spec_IsFact.calls (a0_0 : Int) (a0_1 : Int) (a0_2 : Int) (a0_3 : Int) (a0_4 : Int) (a0_5 : Int) (r : Bool) (w : World) (h : spec_IsFact.f a0_0 a0_1 a0_2 a0_3 a0_4 a0_5 = some r) :
    Calls Try.prog 94 #[.agg #[.int .i64 a0_0, .int .i64 a0_1, .int .i64 a0_2, .int .i64 a0_3, .int .i64 a0_4, .int .i64 a0_5]] w fun e w' => e = .returned (.bool r) ∧ Below w.heap.size w w' := by
  have hu75 := Try.underlying75
  have HB := Aside0.mk (Below.refl w.heap.size w)
  have H : (if a0_0 = 1 then ((spec_HasKind.f a0_1 1).bind fun t212 => (if t212 = true then ((spec_l1In.f a0_2 0 5).bind fun t213 => (if t213 = true then ((spec_l1In.f a0_3 0 9).bind fun t214 => (if t214 = true then ((spec_IsTime.f a0_4).bind fun t215 => (if t215 = true then ((spec_IsTime.f a0_5).bind fun t216 => (if t216 = true then (some (decide (a0_4 ≤ a0_5))) else (some false))) else (some false))) else (some false))) else (some false))) else (some false))) else (if a0_0 = 2 then ((spec_HasKind.f a0_1 1).bind fun t217 => (if t217 = true then ((spec_HasKind.f a0_2 2).bind fun t218 => (if t218 = true then ((spec_l1In.f a0_3 0 9).bind fun t219 => (if t219 = true then ((spec_IsTime.f a0_4).bind fun t220 => (if t220 = true then ((spec_IsTime.f a0_5).bind fun t221 => (if t221 = true then (some (decide (a0_4 ≤ a0_5))) else (some false))) else (some false))) else (some false))) else (some false))) else (some false))) else (if a0_0 = 3 then ((spec_HasKind.f a0_1 2).bind fun t222 => (if t222 = true then ((spec_l1In.f a0_2 0 3).bind fun t223 => (if t223 = true then ((spec_l1In.f a0_3 0 9).bind fun t224 => (if t224 = true then ((spec_IsTime.f a0_4).bind fun t225 => (if t225 = true then ((spec_IsTime.f a0_5).bind fun t226 => (if t226 = true then (some (decide (a0_4 ≤ a0_5))) else (some false))) else (some false))) else (some false))) else (some false))) else (some false))) else (if a0_0 = 4 then ((spec_HasKind.f a0_1 3).bind fun t227 => (if t227 = true then ((spec_l1In.f a0_2 0 3).bind fun t228 => (if t228 = true then ((spec_l1In.f a0_3 0 9).bind fun t229 => (if t229 = true then ((spec_IsTime.f a0_4).bind fun t230 => (if t230 = true then ((spec_IsTime.f a0_5).bind fun t231 => (if t231 = true then (some (decide (a0_4 ≤ a0_5))) else (some false))) else (some false))) else (some false))) else (some false))) else (some false))) else (some false))))) = some r := h
  clear h
  by_cases c2 : a0_0 = 1
  · rw [if_pos c2] at H
    have c2b0 : (a0_0 == 1) = true := beq_iff_eq.mpr c2
    have c2b1 : (a0_0 != 1) = false := bne_eq_false_iff_eq.mpr c2
    clear c2
    replace H := Option.bind_eq_some_iff.mp H
    obtain ⟨t212, A30, H⟩ := H
    replace H : (if t212 = true then ((spec_l1In.f a0_2 0 5).bind fun t213 => (if t213 = true then ((spec_l1In.f a0_3 0 9).bind fun t214 => (if t214 = true then ((spec_IsTime.f a0_4).bind fun t215 => (if t215 = true then ((spec_IsTime.f a0_5).bind fun t216 => (if t216 = true then (some (decide (a0_4 ≤ a0_5))) else (some false))) else (some false))) else (some false))) else (some false))) else (some false)) = some r := H
    have A3 := Aside0.mk A30
    clear A30
    by_cases c4 : t212 = true
    · subst c4
      have H1 : ((spec_l1In.f a0_2 0 5).bind fun t213 => (if t213 = true then ((spec_l1In.f a0_3 0 9).bind fun t214 => (if t214 = true then ((spec_IsTime.f a0_4).bind fun t215 => (if t215 = true then ((spec_IsTime.f a0_5).bind fun t216 => (if t216 = true then (some (decide (a0_4 ≤ a0_5))) else (some false))) else (some false))) else (some false))) else (some false))) = some r := by rw [if_pos rfl] at H; exact H
      clear H
      have H := H1
      clear H1
      replace H := Option.bind_eq_some_iff.mp H
      obtain ⟨t213, A50, H⟩ := H
      replace H : (if t213 = true then ((spec_l1In.f a0_3 0 9).bind fun t214 => (if t214 = true then ((spec_IsTime.f a0_4).bind fun t215 => (if t215 = true then ((spec_IsTime.f a0_5).bind fun t216 => (if t216 = true then (some (decide (a0_4 ≤ a0_5))) else (some false))) else (some false))) else (some false))) else (some false)) = some r := H
      have A5 := Aside0.mk A50
      clear A50
      by_cases c6 : t213 = true
      · subst c6
        have H1 : ((spec_l1In.f a0_3 0 9).bind fun t214 => (if t214 = true then ((spec_IsTime.f a0_4).bind fun t215 => (if t215 = true then ((spec_IsTime.f a0_5).bind fun t216 => (if t216 = true then (some (decide (a0_4 ≤ a0_5))) else (some false))) else (some false))) else (some false))) = some r := by rw [if_pos rfl] at H; exact H
        clear H
        have H := H1
        clear H1
        replace H := Option.bind_eq_some_iff.mp H
        obtain ⟨t214, A70, H⟩ := H
        replace H : (if t214 = true then ((spec_IsTime.f a0_4).bind fun t215 => (if t215 = true then ((spec_IsTime.f a0_5).bind fun t216 => (if t216 = true then (some (decide (a0_4 ≤ a0_5))) else (some false))) else (some false))) else (some false)) = some r := H
        have A7 := Aside0.mk A70
        clear A70
        by_cases c8 : t214 = true
        · subst c8
          have H1 : ((spec_IsTime.f a0_4).bind fun t215 => (if t215 = true then ((spec_IsTime.f a0_5).bind fun t216 => (if t216 = true then (some (decide (a0_4 ≤ a0_5))) else (some false))) else (some false))) = some r := by rw [if_pos rfl] at H; exact H
          clear H
          have H := H1
          clear H1
          replace H := Option.bind_eq_some_iff.mp H
          obtain ⟨t215, A90, H⟩ := H
          replace H : (if t215 = true then ((spec_IsTime.f a0_5).bind fun t216 => (if t216 = true then (some (decide (a0_4 ≤ a0_5))) else (some false))) else (some false)) = some r := H
          have A9 := Aside0.mk A90
          clear A90
          by_cases c10 : t215 = true
          · subst c10
            have H1 : ((spec_IsTime.f a0_5).bind fun t216 => (if t216 = true then (some (decide (a0_4 ≤ a0_5))) else (some false))) = some r := by rw [if_pos rfl] at H; exact H
            clear H
            have H := H1
            clear H1
            replace H := Option.bind_eq_some_iff.mp H
            obtain ⟨t216, A110, H⟩ := H
            replace H : (if t216 = true then (some (decide (a0_4 ≤ a0_5))) else (some false)) = some r := H
            have A11 := Aside0.mk A110
            clear A110
            by_cases c12 : t216 = true
            · subst c12
              have H1 : (some (decide (a0_4 ≤ a0_5))) = some r := by rw [if_pos rfl] at H; exact H
              clear H
              have H := H1
              clear H1
              obtain rfl := Option.some.inj H
              go_enter Try.func94, Try.ntmps94
              go_wp2_with (first | ((with_reducible refine gate_dst (N := 1) rfl ?_); refine box_event ?hg (N := 1) ?hd (cs := #[.int .i64 a0_0, .int .i64 a0_1, .int .i64 a0_2, .int .i64 a0_3, .int .i64 a0_4, .int .i64 a0_5]) (t := 75) ?hr ?_; (case hd => rfl); (case hg => rfl); (case hr => first | (go_simp; done) | (go_simp; rfl)); intro gb211 hg w13 hbox hb; have n0_ := Aside0.mk (below_step z94_0 hb); have n1_ := Aside0.mk (hbox); have n2_ := Aside0.mk ((z94_2 : w.heap.size ≤ gb211)); have n3_ := Aside0.mk ((z94_2 : w.heap.size ≤ gb211)); clear HB; have HB := n0_; have BK211 := n1_; have GW211 := n2_; have GE211 := n3_; clear n0_ n1_ n2_ n3_; clear hb hbox hg; have hcz14_0 : w13.cell? ⟨gb211, 0, none⟩ = some (.int .i64 a0_0) := (bC_ BK211.out 0).trans rfl; have hcz14_1 : w13.cell? ⟨gb211, 1, none⟩ = some (.int .i64 a0_1) := (bC_ BK211.out 1).trans rfl; have hcz14_2 : w13.cell? ⟨gb211, 2, none⟩ = some (.int .i64 a0_2) := (bC_ BK211.out 2).trans rfl; have hcz14_3 : w13.cell? ⟨gb211, 3, none⟩ = some (.int .i64 a0_3) := (bC_ BK211.out 3).trans rfl; have hcz14_4 : w13.cell? ⟨gb211, 4, none⟩ = some (.int .i64 a0_4) := (bC_ BK211.out 4).trans rfl; have hcz14_5 : w13.cell? ⟨gb211, 5, none⟩ = some (.int .i64 a0_5) := (bC_ BK211.out 5).trans rfl; have hfz14_0 := bF_ BK211.out 0; have hfz14_1 := bF_ BK211.out 1; have hfz14_2 := bF_ BK211.out 2; have hfz14_3 := bF_ BK211.out 3; have hfz14_4 := bF_ BK211.out 4; have hfz14_5 := bF_ BK211.out 5) | ((with_reducible refine gate_callee (f := 110) rfl ?_); refine goesL_ (some 10) rfl rfl Try.func110 (by kernel_rfl) rfl #[.int .i64 a0_1, .int .i64 1] rfl z94_1 ?_; (with_reducible refine (spec_HasKind.calls a0_1 1 true _ A3.out).mono ?_); rintro e w' ⟨rfl, ⟨nd, rfl⟩⟩; refine ⟨_, rfl, ?_⟩) | (go_at_call 68; (with_reducible refine (spec_l1In.calls a0_2 0 5 true _ A5.out).mono ?_); rintro e w' ⟨rfl, ⟨nd, rfl⟩⟩) | (go_at_call 68; (with_reducible refine (spec_l1In.calls a0_3 0 9 true _ A7.out).mono ?_); rintro e w' ⟨rfl, ⟨nd, rfl⟩⟩) | (go_at_call 76; (with_reducible refine (spec_IsTime.calls a0_4 true _ A9.out).mono ?_); rintro e w' ⟨rfl, ⟨nd, rfl⟩⟩) | (go_at_call 76; (with_reducible refine (spec_IsTime.calls a0_5 true _ A11.out).mono ?_); rintro e w' ⟨rfl, ⟨nd, rfl⟩⟩))
              go_ret
              exact ⟨by first | rfl | (simp [errW_none, errW_some] <;> rfl) | (simp [*, errW_none, errW_some] <;> rfl), by repeat (first | (with_reducible first | exact HB.out | apply bA_ | apply bN_ | apply bD_ | refine bS_ ?_ GE211.out) | exact HB.out)⟩
            · replace c12 := Bool.eq_false_iff.mpr c12
              subst c12
              have H1 : (some false) = some r := by rw [if_neg (show ¬ (false = true) by decide)] at H; exact H
              clear H
              have H := H1
              clear H1
              obtain rfl := Option.some.inj H
              go_enter Try.func94, Try.ntmps94
              go_wp2_with (first | ((with_reducible refine gate_dst (N := 1) rfl ?_); refine box_event ?hg (N := 1) ?hd (cs := #[.int .i64 a0_0, .int .i64 a0_1, .int .i64 a0_2, .int .i64 a0_3, .int .i64 a0_4, .int .i64 a0_5]) (t := 75) ?hr ?_; (case hd => rfl); (case hg => rfl); (case hr => first | (go_simp; done) | (go_simp; rfl)); intro gb211 hg w15 hbox hb; have n0_ := Aside0.mk (below_step z94_0 hb); have n1_ := Aside0.mk (hbox); have n2_ := Aside0.mk ((z94_2 : w.heap.size ≤ gb211)); have n3_ := Aside0.mk ((z94_2 : w.heap.size ≤ gb211)); clear HB; have HB := n0_; have BK211 := n1_; have GW211 := n2_; have GE211 := n3_; clear n0_ n1_ n2_ n3_; clear hb hbox hg; have hcz16_0 : w15.cell? ⟨gb211, 0, none⟩ = some (.int .i64 a0_0) := (bC_ BK211.out 0).trans rfl; have hcz16_1 : w15.cell? ⟨gb211, 1, none⟩ = some (.int .i64 a0_1) := (bC_ BK211.out 1).trans rfl; have hcz16_2 : w15.cell? ⟨gb211, 2, none⟩ = some (.int .i64 a0_2) := (bC_ BK211.out 2).trans rfl; have hcz16_3 : w15.cell? ⟨gb211, 3, none⟩ = some (.int .i64 a0_3) := (bC_ BK211.out 3).trans rfl; have hcz16_4 : w15.cell? ⟨gb211, 4, none⟩ = some (.int .i64 a0_4) := (bC_ BK211.out 4).trans rfl; have hcz16_5 : w15.cell? ⟨gb211, 5, none⟩ = some (.int .i64 a0_5) := (bC_ BK211.out 5).trans rfl; have hfz16_0 := bF_ BK211.out 0; have hfz16_1 := bF_ BK211.out 1; have hfz16_2 := bF_ BK211.out 2; have hfz16_3 := bF_ BK211.out 3; have hfz16_4 := bF_ BK211.out 4; have hfz16_5 := bF_ BK211.out 5) | ((with_reducible refine gate_callee (f := 110) rfl ?_); refine goesL_ (some 10) rfl rfl Try.func110 (by kernel_rfl) rfl #[.int .i64 a0_1, .int .i64 1] rfl z94_1 ?_; (with_reducible refine (spec_HasKind.calls a0_1 1 true _ A3.out).mono ?_); rintro e w' ⟨rfl, ⟨nd, rfl⟩⟩; refine ⟨_, rfl, ?_⟩) | (go_at_call 68; (with_reducible refine (spec_l1In.calls a0_2 0 5 true _ A5.out).mono ?_); rintro e w' ⟨rfl, ⟨nd, rfl⟩⟩) | (go_at_call 68; (with_reducible refine (spec_l1In.calls a0_3 0 9 true _ A7.out).mono ?_); rintro e w' ⟨rfl, ⟨nd, rfl⟩⟩) | (go_at_call 76; (with_reducible refine (spec_IsTime.calls a0_4 true _ A9.out).mono ?_); rintro e w' ⟨rfl, ⟨nd, rfl⟩⟩) | (go_at_call 76; (with_reducible refine (spec_IsTime.calls a0_5 false _ A11.out).mono ?_); rintro e w' ⟨rfl, ⟨nd, rfl⟩⟩))
              go_ret
              exact ⟨by first | rfl | (simp [errW_none, errW_some] <;> rfl) | (simp [*, errW_none, errW_some] <;> rfl), by repeat (first | (with_reducible first | exact HB.out | apply bA_ | apply bN_ | apply bD_ | refine bS_ ?_ GE211.out) | exact HB.out)⟩
          · replace c10 := Bool.eq_false_iff.mpr c10
            subst c10
            have H1 : (some false) = some r := by rw [if_neg (show ¬ (false = true) by decide)] at H; exact H
            clear H
            have H := H1
            clear H1
            obtain rfl := Option.some.inj H
            go_enter Try.func94, Try.ntmps94
            go_wp2_with (first | ((with_reducible refine gate_dst (N := 1) rfl ?_); refine box_event ?hg (N := 1) ?hd (cs := #[.int .i64 a0_0, .int .i64 a0_1, .int .i64 a0_2, .int .i64 a0_3, .int .i64 a0_4, .int .i64 a0_5]) (t := 75) ?hr ?_; (case hd => rfl); (case hg => rfl); (case hr => first | (go_simp; done) | (go_simp; rfl)); intro gb211 hg w17 hbox hb; have n0_ := Aside0.mk (below_step z94_0 hb); have n1_ := Aside0.mk (hbox); have n2_ := Aside0.mk ((z94_2 : w.heap.size ≤ gb211)); have n3_ := Aside0.mk ((z94_2 : w.heap.size ≤ gb211)); clear HB; have HB := n0_; have BK211 := n1_; have GW211 := n2_; have GE211 := n3_; clear n0_ n1_ n2_ n3_; clear hb hbox hg; have hcz18_0 : w17.cell? ⟨gb211, 0, none⟩ = some (.int .i64 a0_0) := (bC_ BK211.out 0).trans rfl; have hcz18_1 : w17.cell? ⟨gb211, 1, none⟩ = some (.int .i64 a0_1) := (bC_ BK211.out 1).trans rfl; have hcz18_2 : w17.cell? ⟨gb211, 2, none⟩ = some (.int .i64 a0_2) := (bC_ BK211.out 2).trans rfl; have hcz18_3 : w17.cell? ⟨gb211, 3, none⟩ = some (.int .i64 a0_3) := (bC_ BK211.out 3).trans rfl; have hcz18_4 : w17.cell? ⟨gb211, 4, none⟩ = some (.int .i64 a0_4) := (bC_ BK211.out 4).trans rfl; have hcz18_5 : w17.cell? ⟨gb211, 5, none⟩ = some (.int .i64 a0_5) := (bC_ BK211.out 5).trans rfl; have hfz18_0 := bF_ BK211.out 0; have hfz18_1 := bF_ BK211.out 1; have hfz18_2 := bF_ BK211.out 2; have hfz18_3 := bF_ BK211.out 3; have hfz18_4 := bF_ BK211.out 4; have hfz18_5 := bF_ BK211.out 5) | ((with_reducible refine gate_callee (f := 110) rfl ?_); refine goesL_ (some 10) rfl rfl Try.func110 (by kernel_rfl) rfl #[.int .i64 a0_1, .int .i64 1] rfl z94_1 ?_; (with_reducible refine (spec_HasKind.calls a0_1 1 true _ A3.out).mono ?_); rintro e w' ⟨rfl, ⟨nd, rfl⟩⟩; refine ⟨_, rfl, ?_⟩) | (go_at_call 68; (with_reducible refine (spec_l1In.calls a0_2 0 5 true _ A5.out).mono ?_); rintro e w' ⟨rfl, ⟨nd, rfl⟩⟩) | (go_at_call 68; (with_reducible refine (spec_l1In.calls a0_3 0 9 true _ A7.out).mono ?_); rintro e w' ⟨rfl, ⟨nd, rfl⟩⟩) | (go_at_call 76; (with_reducible refine (spec_IsTime.calls a0_4 false _ A9.out).mono ?_); rintro e w' ⟨rfl, ⟨nd, rfl⟩⟩))
            go_ret
            exact ⟨by first | rfl | (simp [errW_none, errW_some] <;> rfl) | (simp [*, errW_none, errW_some] <;> rfl), by repeat (first | (with_reducible first | exact HB.out | apply bA_ | apply bN_ | apply bD_ | refine bS_ ?_ GE211.out) | exact HB.out)⟩
        · replace c8 := Bool.eq_false_iff.mpr c8
          subst c8
          have H1 : (some false) = some r := by rw [if_neg (show ¬ (false = true) by decide)] at H; exact H
          clear H
          have H := H1
          clear H1
          obtain rfl := Option.some.inj H
          go_enter Try.func94, Try.ntmps94
          go_wp2_with (first | ((with_reducible refine gate_dst (N := 1) rfl ?_); refine box_event ?hg (N := 1) ?hd (cs := #[.int .i64 a0_0, .int .i64 a0_1, .int .i64 a0_2, .int .i64 a0_3, .int .i64 a0_4, .int .i64 a0_5]) (t := 75) ?hr ?_; (case hd => rfl); (case hg => rfl); (case hr => first | (go_simp; done) | (go_simp; rfl)); intro gb211 hg w19 hbox hb; have n0_ := Aside0.mk (below_step z94_0 hb); have n1_ := Aside0.mk (hbox); have n2_ := Aside0.mk ((z94_2 : w.heap.size ≤ gb211)); have n3_ := Aside0.mk ((z94_2 : w.heap.size ≤ gb211)); clear HB; have HB := n0_; have BK211 := n1_; have GW211 := n2_; have GE211 := n3_; clear n0_ n1_ n2_ n3_; clear hb hbox hg; have hcz20_0 : w19.cell? ⟨gb211, 0, none⟩ = some (.int .i64 a0_0) := (bC_ BK211.out 0).trans rfl; have hcz20_1 : w19.cell? ⟨gb211, 1, none⟩ = some (.int .i64 a0_1) := (bC_ BK211.out 1).trans rfl; have hcz20_2 : w19.cell? ⟨gb211, 2, none⟩ = some (.int .i64 a0_2) := (bC_ BK211.out 2).trans rfl; have hcz20_3 : w19.cell? ⟨gb211, 3, none⟩ = some (.int .i64 a0_3) := (bC_ BK211.out 3).trans rfl; have hcz20_4 : w19.cell? ⟨gb211, 4, none⟩ = some (.int .i64 a0_4) := (bC_ BK211.out 4).trans rfl; have hcz20_5 : w19.cell? ⟨gb211, 5, none⟩ = some (.int .i64 a0_5) := (bC_ BK211.out 5).trans rfl; have hfz20_0 := bF_ BK211.out 0; have hfz20_1 := bF_ BK211.out 1; have hfz20_2 := bF_ BK211.out 2; have hfz20_3 := bF_ BK211.out 3; have hfz20_4 := bF_ BK211.out 4; have hfz20_5 := bF_ BK211.out 5) | ((with_reducible refine gate_callee (f := 110) rfl ?_); refine goesL_ (some 10) rfl rfl Try.func110 (by kernel_rfl) rfl #[.int .i64 a0_1, .int .i64 1] rfl z94_1 ?_; (with_reducible refine (spec_HasKind.calls a0_1 1 true _ A3.out).mono ?_); rintro e w' ⟨rfl, ⟨nd, rfl⟩⟩; refine ⟨_, rfl, ?_⟩) | (go_at_call 68; (with_reducible refine (spec_l1In.calls a0_2 0 5 true _ A5.out).mono ?_); rintro e w' ⟨rfl, ⟨nd, rfl⟩⟩) | (go_at_call 68; (with_reducible refine (spec_l1In.calls a0_3 0 9 false _ A7.out).mono ?_); rintro e w' ⟨rfl, ⟨nd, rfl⟩⟩))
          go_ret
          exact ⟨by first | rfl | (simp [errW_none, errW_some] <;> rfl) | (simp [*, errW_none, errW_some] <;> rfl), by repeat (first | (with_reducible first | exact HB.out | apply bA_ | apply bN_ | apply bD_ | refine bS_ ?_ GE211.out) | exact HB.out)⟩
      · replace c6 := Bool.eq_false_iff.mpr c6
        subst c6
        have H1 : (some false) = some r := by rw [if_neg (show ¬ (false = true) by decide)] at H; exact H
        clear H
        have H := H1
        clear H1
        obtain rfl := Option.some.inj H
        go_enter Try.func94, Try.ntmps94
        go_wp2_with (first | ((with_reducible refine gate_dst (N := 1) rfl ?_); refine box_event ?hg (N := 1) ?hd (cs := #[.int .i64 a0_0, .int .i64 a0_1, .int .i64 a0_2, .int .i64 a0_3, .int .i64 a0_4, .int .i64 a0_5]) (t := 75) ?hr ?_; (case hd => rfl); (case hg => rfl); (case hr => first | (go_simp; done) | (go_simp; rfl)); intro gb211 hg w21 hbox hb; have n0_ := Aside0.mk (below_step z94_0 hb); have n1_ := Aside0.mk (hbox); have n2_ := Aside0.mk ((z94_2 : w.heap.size ≤ gb211)); have n3_ := Aside0.mk ((z94_2 : w.heap.size ≤ gb211)); clear HB; have HB := n0_; have BK211 := n1_; have GW211 := n2_; have GE211 := n3_; clear n0_ n1_ n2_ n3_; clear hb hbox hg; have hcz22_0 : w21.cell? ⟨gb211, 0, none⟩ = some (.int .i64 a0_0) := (bC_ BK211.out 0).trans rfl; have hcz22_1 : w21.cell? ⟨gb211, 1, none⟩ = some (.int .i64 a0_1) := (bC_ BK211.out 1).trans rfl; have hcz22_2 : w21.cell? ⟨gb211, 2, none⟩ = some (.int .i64 a0_2) := (bC_ BK211.out 2).trans rfl; have hcz22_3 : w21.cell? ⟨gb211, 3, none⟩ = some (.int .i64 a0_3) := (bC_ BK211.out 3).trans rfl; have hcz22_4 : w21.cell? ⟨gb211, 4, none⟩ = some (.int .i64 a0_4) := (bC_ BK211.out 4).trans rfl; have hcz22_5 : w21.cell? ⟨gb211, 5, none⟩ = some (.int .i64 a0_5) := (bC_ BK211.out 5).trans rfl; have hfz22_0 := bF_ BK211.out 0; have hfz22_1 := bF_ BK211.out 1; have hfz22_2 := bF_ BK211.out 2; have hfz22_3 := bF_ BK211.out 3; have hfz22_4 := bF_ BK211.out 4; have hfz22_5 := bF_ BK211.out 5) | ((with_reducible refine gate_callee (f := 110) rfl ?_); refine goesL_ (some 10) rfl rfl Try.func110 (by kernel_rfl) rfl #[.int .i64 a0_1, .int .i64 1] rfl z94_1 ?_; (with_reducible refine (spec_HasKind.calls a0_1 1 true _ A3.out).mono ?_); rintro e w' ⟨rfl, ⟨nd, rfl⟩⟩; refine ⟨_, rfl, ?_⟩) | (go_at_call 68; (with_reducible refine (spec_l1In.calls a0_2 0 5 false _ A5.out).mono ?_); rintro e w' ⟨rfl, ⟨nd, rfl⟩⟩))
        go_ret
        exact ⟨by first | rfl | (simp [errW_none, errW_some] <;> rfl) | (simp [*, errW_none, errW_some] <;> rfl), by repeat (first | (with_reducible first | exact HB.out | apply bA_ | apply bN_ | apply bD_ | refine bS_ ?_ GE211.out) | exact HB.out)⟩
    · replace c4 := Bool.eq_false_iff.mpr c4
      subst c4
      have H1 : (some false) = some r := by rw [if_neg (show ¬ (false = true) by decide)] at H; exact H
      clear H
      have H := H1
      clear H1
      obtain rfl := Option.some.inj H
      go_enter Try.func94, Try.ntmps94
      go_wp2_with (first | ((with_reducible refine gate_dst (N := 1) rfl ?_); refine box_event ?hg (N := 1) ?hd (cs := #[.int .i64 a0_0, .int .i64 a0_1, .int .i64 a0_2, .int .i64 a0_3, .int .i64 a0_4, .int .i64 a0_5]) (t := 75) ?hr ?_; (case hd => rfl); (case hg => rfl); (case hr => first | (go_simp; done) | (go_simp; rfl)); intro gb211 hg w23 hbox hb; have n0_ := Aside0.mk (below_step z94_0 hb); have n1_ := Aside0.mk (hbox); have n2_ := Aside0.mk ((z94_2 : w.heap.size ≤ gb211)); have n3_ := Aside0.mk ((z94_2 : w.heap.size ≤ gb211)); clear HB; have HB := n0_; have BK211 := n1_; have GW211 := n2_; have GE211 := n3_; clear n0_ n1_ n2_ n3_; clear hb hbox hg; have hcz24_0 : w23.cell? ⟨gb211, 0, none⟩ = some (.int .i64 a0_0) := (bC_ BK211.out 0).trans rfl; have hcz24_1 : w23.cell? ⟨gb211, 1, none⟩ = some (.int .i64 a0_1) := (bC_ BK211.out 1).trans rfl; have hcz24_2 : w23.cell? ⟨gb211, 2, none⟩ = some (.int .i64 a0_2) := (bC_ BK211.out 2).trans rfl; have hcz24_3 : w23.cell? ⟨gb211, 3, none⟩ = some (.int .i64 a0_3) := (bC_ BK211.out 3).trans rfl; have hcz24_4 : w23.cell? ⟨gb211, 4, none⟩ = some (.int .i64 a0_4) := (bC_ BK211.out 4).trans rfl; have hcz24_5 : w23.cell? ⟨gb211, 5, none⟩ = some (.int .i64 a0_5) := (bC_ BK211.out 5).trans rfl; have hfz24_0 := bF_ BK211.out 0; have hfz24_1 := bF_ BK211.out 1; have hfz24_2 := bF_ BK211.out 2; have hfz24_3 := bF_ BK211.out 3; have hfz24_4 := bF_ BK211.out 4; have hfz24_5 := bF_ BK211.out 5) | ((with_reducible refine gate_callee (f := 110) rfl ?_); refine goesL_ (some 10) rfl rfl Try.func110 (by kernel_rfl) rfl #[.int .i64 a0_1, .int .i64 1] rfl z94_1 ?_; (with_reducible refine (spec_HasKind.calls a0_1 1 false _ A3.out).mono ?_); rintro e w' ⟨rfl, ⟨nd, rfl⟩⟩; refine ⟨_, rfl, ?_⟩))
      go_ret
      exact ⟨by first | rfl | (simp [errW_none, errW_some] <;> rfl) | (simp [*, errW_none, errW_some] <;> rfl), by repeat (first | (with_reducible first | exact HB.out | apply bA_ | apply bN_ | apply bD_ | refine bS_ ?_ GE211.out) | exact HB.out)⟩
  · rw [if_neg c2] at H
    have c2b0 : (a0_0 == 1) = false := beq_eq_false_iff_ne.mpr c2
    have c2b1 : (a0_0 != 1) = true := bne_iff_ne.mpr c2
    by_cases c25 : a0_0 = 2
    · rw [if_pos c25] at H
      have c25b0 : (a0_0 == 2) = true := beq_iff_eq.mpr c25
      have c25b1 : (a0_0 != 2) = false := bne_eq_false_iff_eq.mpr c25
      clear c25
      replace H := Option.bind_eq_some_iff.mp H
      obtain ⟨t217, A260, H⟩ := H
      replace H : (if t217 = true then ((spec_HasKind.f a0_2 2).bind fun t218 => (if t218 = true then ((spec_l1In.f a0_3 0 9).bind fun t219 => (if t219 = true then ((spec_IsTime.f a0_4).bind fun t220 => (if t220 = true then ((spec_IsTime.f a0_5).bind fun t221 => (if t221 = true then (some (decide (a0_4 ≤ a0_5))) else (some false))) else (some false))) else (some false))) else (some false))) else (some false)) = some r := H
      have A26 := Aside0.mk A260
      clear A260
      by_cases c27 : t217 = true
      · subst c27
        have H1 : ((spec_HasKind.f a0_2 2).bind fun t218 => (if t218 = true then ((spec_l1In.f a0_3 0 9).bind fun t219 => (if t219 = true then ((spec_IsTime.f a0_4).bind fun t220 => (if t220 = true then ((spec_IsTime.f a0_5).bind fun t221 => (if t221 = true then (some (decide (a0_4 ≤ a0_5))) else (some false))) else (some false))) else (some false))) else (some false))) = some r := by rw [if_pos rfl] at H; exact H
        clear H
        have H := H1
        clear H1
        replace H := Option.bind_eq_some_iff.mp H
        obtain ⟨t218, A280, H⟩ := H
        replace H : (if t218 = true then ((spec_l1In.f a0_3 0 9).bind fun t219 => (if t219 = true then ((spec_IsTime.f a0_4).bind fun t220 => (if t220 = true then ((spec_IsTime.f a0_5).bind fun t221 => (if t221 = true then (some (decide (a0_4 ≤ a0_5))) else (some false))) else (some false))) else (some false))) else (some false)) = some r := H
        have A28 := Aside0.mk A280
        clear A280
        by_cases c29 : t218 = true
        · subst c29
          have H1 : ((spec_l1In.f a0_3 0 9).bind fun t219 => (if t219 = true then ((spec_IsTime.f a0_4).bind fun t220 => (if t220 = true then ((spec_IsTime.f a0_5).bind fun t221 => (if t221 = true then (some (decide (a0_4 ≤ a0_5))) else (some false))) else (some false))) else (some false))) = some r := by rw [if_pos rfl] at H; exact H
          clear H
          have H := H1
          clear H1
          replace H := Option.bind_eq_some_iff.mp H
          obtain ⟨t219, A300, H⟩ := H
          replace H : (if t219 = true then ((spec_IsTime.f a0_4).bind fun t220 => (if t220 = true then ((spec_IsTime.f a0_5).bind fun t221 => (if t221 = true then (some (decide (a0_4 ≤ a0_5))) else (some false))) else (some false))) else (some false)) = some r := H
          have A30 := Aside0.mk A300
          clear A300
          by_cases c31 : t219 = true
          · subst c31
            have H1 : ((spec_IsTime.f a0_4).bind fun t220 => (if t220 = true then ((spec_IsTime.f a0_5).bind fun t221 => (if t221 = true then (some (decide (a0_4 ≤ a0_5))) else (some false))) else (some false))) = some r := by rw [if_pos rfl] at H; exact H
            clear H
            have H := H1
            clear H1
            replace H := Option.bind_eq_some_iff.mp H
            obtain ⟨t220, A320, H⟩ := H
            replace H : (if t220 = true then ((spec_IsTime.f a0_5).bind fun t221 => (if t221 = true then (some (decide (a0_4 ≤ a0_5))) else (some false))) else (some false)) = some r := H
            have A32 := Aside0.mk A320
            clear A320
            by_cases c33 : t220 = true
            · subst c33
              have H1 : ((spec_IsTime.f a0_5).bind fun t221 => (if t221 = true then (some (decide (a0_4 ≤ a0_5))) else (some false))) = some r := by rw [if_pos rfl] at H; exact H
              clear H
              have H := H1
              clear H1
              replace H := Option.bind_eq_some_iff.mp H
              obtain ⟨t221, A340, H⟩ := H
              replace H : (if t221 = true then (some (decide (a0_4 ≤ a0_5))) else (some false)) = some r := H
              have A34 := Aside0.mk A340
              clear A340
              by_cases c35 : t221 = true
              · subst c35
                have H1 : (some (decide (a0_4 ≤ a0_5))) = some r := by rw [if_pos rfl] at H; exact H
                clear H
                have H := H1
                clear H1
                obtain rfl := Option.some.inj H
                go_enter Try.func94, Try.ntmps94
                go_wp2_with (first | ((with_reducible refine gate_dst (N := 1) rfl ?_); refine box_event ?hg (N := 1) ?hd (cs := #[.int .i64 a0_0, .int .i64 a0_1, .int .i64 a0_2, .int .i64 a0_3, .int .i64 a0_4, .int .i64 a0_5]) (t := 75) ?hr ?_; (case hd => rfl); (case hg => rfl); (case hr => first | (go_simp; done) | (go_simp; rfl)); intro gb211 hg w36 hbox hb; have n0_ := Aside0.mk (below_step z94_0 hb); have n1_ := Aside0.mk (hbox); have n2_ := Aside0.mk ((z94_2 : w.heap.size ≤ gb211)); have n3_ := Aside0.mk ((z94_2 : w.heap.size ≤ gb211)); clear HB; have HB := n0_; have BK211 := n1_; have GW211 := n2_; have GE211 := n3_; clear n0_ n1_ n2_ n3_; clear hb hbox hg; have hcz37_0 : w36.cell? ⟨gb211, 0, none⟩ = some (.int .i64 a0_0) := (bC_ BK211.out 0).trans rfl; have hcz37_1 : w36.cell? ⟨gb211, 1, none⟩ = some (.int .i64 a0_1) := (bC_ BK211.out 1).trans rfl; have hcz37_2 : w36.cell? ⟨gb211, 2, none⟩ = some (.int .i64 a0_2) := (bC_ BK211.out 2).trans rfl; have hcz37_3 : w36.cell? ⟨gb211, 3, none⟩ = some (.int .i64 a0_3) := (bC_ BK211.out 3).trans rfl; have hcz37_4 : w36.cell? ⟨gb211, 4, none⟩ = some (.int .i64 a0_4) := (bC_ BK211.out 4).trans rfl; have hcz37_5 : w36.cell? ⟨gb211, 5, none⟩ = some (.int .i64 a0_5) := (bC_ BK211.out 5).trans rfl; have hfz37_0 := bF_ BK211.out 0; have hfz37_1 := bF_ BK211.out 1; have hfz37_2 := bF_ BK211.out 2; have hfz37_3 := bF_ BK211.out 3; have hfz37_4 := bF_ BK211.out 4; have hfz37_5 := bF_ BK211.out 5) | ((with_reducible refine gate_callee (f := 110) rfl ?_); refine goesL_ (some 20) rfl rfl Try.func110 (by kernel_rfl) rfl #[.int .i64 a0_1, .int .i64 1] rfl z94_1 ?_; (with_reducible refine (spec_HasKind.calls a0_1 1 true _ A26.out).mono ?_); rintro e w' ⟨rfl, ⟨nd, rfl⟩⟩; refine ⟨_, rfl, ?_⟩) | (go_at_call 110; (with_reducible refine (spec_HasKind.calls a0_2 2 true _ A28.out).mono ?_); rintro e w' ⟨rfl, ⟨nd, rfl⟩⟩) | (go_at_call 68; (with_reducible refine (spec_l1In.calls a0_3 0 9 true _ A30.out).mono ?_); rintro e w' ⟨rfl, ⟨nd, rfl⟩⟩) | (go_at_call 76; (with_reducible refine (spec_IsTime.calls a0_4 true _ A32.out).mono ?_); rintro e w' ⟨rfl, ⟨nd, rfl⟩⟩) | (go_at_call 76; (with_reducible refine (spec_IsTime.calls a0_5 true _ A34.out).mono ?_); rintro e w' ⟨rfl, ⟨nd, rfl⟩⟩))
                go_ret
                exact ⟨by first | rfl | (simp [errW_none, errW_some] <;> rfl) | (simp [*, errW_none, errW_some] <;> rfl), by repeat (first | (with_reducible first | exact HB.out | apply bA_ | apply bN_ | apply bD_ | refine bS_ ?_ GE211.out) | exact HB.out)⟩
              · replace c35 := Bool.eq_false_iff.mpr c35
                subst c35
                have H1 : (some false) = some r := by rw [if_neg (show ¬ (false = true) by decide)] at H; exact H
                clear H
                have H := H1
                clear H1
                obtain rfl := Option.some.inj H
                go_enter Try.func94, Try.ntmps94
                go_wp2_with (first | ((with_reducible refine gate_dst (N := 1) rfl ?_); refine box_event ?hg (N := 1) ?hd (cs := #[.int .i64 a0_0, .int .i64 a0_1, .int .i64 a0_2, .int .i64 a0_3, .int .i64 a0_4, .int .i64 a0_5]) (t := 75) ?hr ?_; (case hd => rfl); (case hg => rfl); (case hr => first | (go_simp; done) | (go_simp; rfl)); intro gb211 hg w38 hbox hb; have n0_ := Aside0.mk (below_step z94_0 hb); have n1_ := Aside0.mk (hbox); have n2_ := Aside0.mk ((z94_2 : w.heap.size ≤ gb211)); have n3_ := Aside0.mk ((z94_2 : w.heap.size ≤ gb211)); clear HB; have HB := n0_; have BK211 := n1_; have GW211 := n2_; have GE211 := n3_; clear n0_ n1_ n2_ n3_; clear hb hbox hg; have hcz39_0 : w38.cell? ⟨gb211, 0, none⟩ = some (.int .i64 a0_0) := (bC_ BK211.out 0).trans rfl; have hcz39_1 : w38.cell? ⟨gb211, 1, none⟩ = some (.int .i64 a0_1) := (bC_ BK211.out 1).trans rfl; have hcz39_2 : w38.cell? ⟨gb211, 2, none⟩ = some (.int .i64 a0_2) := (bC_ BK211.out 2).trans rfl; have hcz39_3 : w38.cell? ⟨gb211, 3, none⟩ = some (.int .i64 a0_3) := (bC_ BK211.out 3).trans rfl; have hcz39_4 : w38.cell? ⟨gb211, 4, none⟩ = some (.int .i64 a0_4) := (bC_ BK211.out 4).trans rfl; have hcz39_5 : w38.cell? ⟨gb211, 5, none⟩ = some (.int .i64 a0_5) := (bC_ BK211.out 5).trans rfl; have hfz39_0 := bF_ BK211.out 0; have hfz39_1 := bF_ BK211.out 1; have hfz39_2 := bF_ BK211.out 2; have hfz39_3 := bF_ BK211.out 3; have hfz39_4 := bF_ BK211.out 4; have hfz39_5 := bF_ BK211.out 5) | ((with_reducible refine gate_callee (f := 110) rfl ?_); refine goesL_ (some 20) rfl rfl Try.func110 (by kernel_rfl) rfl #[.int .i64 a0_1, .int .i64 1] rfl z94_1 ?_; (with_reducible refine (spec_HasKind.calls a0_1 1 true _ A26.out).mono ?_); rintro e w' ⟨rfl, ⟨nd, rfl⟩⟩; refine ⟨_, rfl, ?_⟩) | (go_at_call 110; (with_reducible refine (spec_HasKind.calls a0_2 2 true _ A28.out).mono ?_); rintro e w' ⟨rfl, ⟨nd, rfl⟩⟩) | (go_at_call 68; (with_reducible refine (spec_l1In.calls a0_3 0 9 true _ A30.out).mono ?_); rintro e w' ⟨rfl, ⟨nd, rfl⟩⟩) | (go_at_call 76; (with_reducible refine (spec_IsTime.calls a0_4 true _ A32.out).mono ?_); rintro e w' ⟨rfl, ⟨nd, rfl⟩⟩) | (go_at_call 76; (with_reducible refine (spec_IsTime.calls a0_5 false _ A34.out).mono ?_); rintro e w' ⟨rfl, ⟨nd, rfl⟩⟩))
                go_ret
                exact ⟨by first | rfl | (simp [errW_none, errW_some] <;> rfl) | (simp [*, errW_none, errW_some] <;> rfl), by repeat (first | (with_reducible first | exact HB.out | apply bA_ | apply bN_ | apply bD_ | refine bS_ ?_ GE211.out) | exact HB.out)⟩
            · replace c33 := Bool.eq_false_iff.mpr c33
              subst c33
              have H1 : (some false) = some r := by rw [if_neg (show ¬ (false = true) by decide)] at H; exact H
              clear H
              have H := H1
              clear H1
              obtain rfl := Option.some.inj H
              go_enter Try.func94, Try.ntmps94
              go_wp2_with (first | ((with_reducible refine gate_dst (N := 1) rfl ?_); refine box_event ?hg (N := 1) ?hd (cs := #[.int .i64 a0_0, .int .i64 a0_1, .int .i64 a0_2, .int .i64 a0_3, .int .i64 a0_4, .int .i64 a0_5]) (t := 75) ?hr ?_; (case hd => rfl); (case hg => rfl); (case hr => first | (go_simp; done) | (go_simp; rfl)); intro gb211 hg w40 hbox hb; have n0_ := Aside0.mk (below_step z94_0 hb); have n1_ := Aside0.mk (hbox); have n2_ := Aside0.mk ((z94_2 : w.heap.size ≤ gb211)); have n3_ := Aside0.mk ((z94_2 : w.heap.size ≤ gb211)); clear HB; have HB := n0_; have BK211 := n1_; have GW211 := n2_; have GE211 := n3_; clear n0_ n1_ n2_ n3_; clear hb hbox hg; have hcz41_0 : w40.cell? ⟨gb211, 0, none⟩ = some (.int .i64 a0_0) := (bC_ BK211.out 0).trans rfl; have hcz41_1 : w40.cell? ⟨gb211, 1, none⟩ = some (.int .i64 a0_1) := (bC_ BK211.out 1).trans rfl; have hcz41_2 : w40.cell? ⟨gb211, 2, none⟩ = some (.int .i64 a0_2) := (bC_ BK211.out 2).trans rfl; have hcz41_3 : w40.cell? ⟨gb211, 3, none⟩ = some (.int .i64 a0_3) := (bC_ BK211.out 3).trans rfl; have hcz41_4 : w40.cell? ⟨gb211, 4, none⟩ = some (.int .i64 a0_4) := (bC_ BK211.out 4).trans rfl; have hcz41_5 : w40.cell? ⟨gb211, 5, none⟩ = some (.int .i64 a0_5) := (bC_ BK211.out 5).trans rfl; have hfz41_0 := bF_ BK211.out 0; have hfz41_1 := bF_ BK211.out 1; have hfz41_2 := bF_ BK211.out 2; have hfz41_3 := bF_ BK211.out 3; have hfz41_4 := bF_ BK211.out 4; have hfz41_5 := bF_ BK211.out 5) | ((with_reducible refine gate_callee (f := 110) rfl ?_); refine goesL_ (some 20) rfl rfl Try.func110 (by kernel_rfl) rfl #[.int .i64 a0_1, .int .i64 1] rfl z94_1 ?_; (with_reducible refine (spec_HasKind.calls a0_1 1 true _ A26.out).mono ?_); rintro e w' ⟨rfl, ⟨nd, rfl⟩⟩; refine ⟨_, rfl, ?_⟩) | (go_at_call 110; (with_reducible refine (spec_HasKind.calls a0_2 2 true _ A28.out).mono ?_); rintro e w' ⟨rfl, ⟨nd, rfl⟩⟩) | (go_at_call 68; (with_reducible refine (spec_l1In.calls a0_3 0 9 true _ A30.out).mono ?_); rintro e w' ⟨rfl, ⟨nd, rfl⟩⟩) | (go_at_call 76; (with_reducible refine (spec_IsTime.calls a0_4 false _ A32.out).mono ?_); rintro e w' ⟨rfl, ⟨nd, rfl⟩⟩))
              go_ret
              exact ⟨by first | rfl | (simp [errW_none, errW_some] <;> rfl) | (simp [*, errW_none, errW_some] <;> rfl), by repeat (first | (with_reducible first | exact HB.out | apply bA_ | apply bN_ | apply bD_ | refine bS_ ?_ GE211.out) | exact HB.out)⟩
          · replace c31 := Bool.eq_false_iff.mpr c31
            subst c31
            have H1 : (some false) = some r := by rw [if_neg (show ¬ (false = true) by decide)] at H; exact H
            clear H
            have H := H1
            clear H1
            obtain rfl := Option.some.inj H
            go_enter Try.func94, Try.ntmps94
            go_wp2_with (first | ((with_reducible refine gate_dst (N := 1) rfl ?_); refine box_event ?hg (N := 1) ?hd (cs := #[.int .i64 a0_0, .int .i64 a0_1, .int .i64 a0_2, .int .i64 a0_3, .int .i64 a0_4, .int .i64 a0_5]) (t := 75) ?hr ?_; (case hd => rfl); (case hg => rfl); (case hr => first | (go_simp; done) | (go_simp; rfl)); intro gb211 hg w42 hbox hb; have n0_ := Aside0.mk (below_step z94_0 hb); have n1_ := Aside0.mk (hbox); have n2_ := Aside0.mk ((z94_2 : w.heap.size ≤ gb211)); have n3_ := Aside0.mk ((z94_2 : w.heap.size ≤ gb211)); clear HB; have HB := n0_; have BK211 := n1_; have GW211 := n2_; have GE211 := n3_; clear n0_ n1_ n2_ n3_; clear hb hbox hg; have hcz43_0 : w42.cell? ⟨gb211, 0, none⟩ = some (.int .i64 a0_0) := (bC_ BK211.out 0).trans rfl; have hcz43_1 : w42.cell? ⟨gb211, 1, none⟩ = some (.int .i64 a0_1) := (bC_ BK211.out 1).trans rfl; have hcz43_2 : w42.cell? ⟨gb211, 2, none⟩ = some (.int .i64 a0_2) := (bC_ BK211.out 2).trans rfl; have hcz43_3 : w42.cell? ⟨gb211, 3, none⟩ = some (.int .i64 a0_3) := (bC_ BK211.out 3).trans rfl; have hcz43_4 : w42.cell? ⟨gb211, 4, none⟩ = some (.int .i64 a0_4) := (bC_ BK211.out 4).trans rfl; have hcz43_5 : w42.cell? ⟨gb211, 5, none⟩ = some (.int .i64 a0_5) := (bC_ BK211.out 5).trans rfl; have hfz43_0 := bF_ BK211.out 0; have hfz43_1 := bF_ BK211.out 1; have hfz43_2 := bF_ BK211.out 2; have hfz43_3 := bF_ BK211.out 3; have hfz43_4 := bF_ BK211.out 4; have hfz43_5 := bF_ BK211.out 5) | ((with_reducible refine gate_callee (f := 110) rfl ?_); refine goesL_ (some 20) rfl rfl Try.func110 (by kernel_rfl) rfl #[.int .i64 a0_1, .int .i64 1] rfl z94_1 ?_; (with_reducible refine (spec_HasKind.calls a0_1 1 true _ A26.out).mono ?_); rintro e w' ⟨rfl, ⟨nd, rfl⟩⟩; refine ⟨_, rfl, ?_⟩) | (go_at_call 110; (with_reducible refine (spec_HasKind.calls a0_2 2 true _ A28.out).mono ?_); rintro e w' ⟨rfl, ⟨nd, rfl⟩⟩) | (go_at_call 68; (with_reducible refine (spec_l1In.calls a0_3 0 9 false _ A30.out).mono ?_); rintro e w' ⟨rfl, ⟨nd, rfl⟩⟩))
            go_ret
            exact ⟨by first | rfl | (simp [errW_none, errW_some] <;> rfl) | (simp [*, errW_none, errW_some] <;> rfl), by repeat (first | (with_reducible first | exact HB.out | apply bA_ | apply bN_ | apply bD_ | refine bS_ ?_ GE211.out) | exact HB.out)⟩
        · replace c29 := Bool.eq_false_iff.mpr c29
          subst c29
          have H1 : (some false) = some r := by rw [if_neg (show ¬ (false = true) by decide)] at H; exact H
          clear H
          have H := H1
          clear H1
          obtain rfl := Option.some.inj H
          go_enter Try.func94, Try.ntmps94
          go_wp2_with (first | ((with_reducible refine gate_dst (N := 1) rfl ?_); refine box_event ?hg (N := 1) ?hd (cs := #[.int .i64 a0_0, .int .i64 a0_1, .int .i64 a0_2, .int .i64 a0_3, .int .i64 a0_4, .int .i64 a0_5]) (t := 75) ?hr ?_; (case hd => rfl); (case hg => rfl); (case hr => first | (go_simp; done) | (go_simp; rfl)); intro gb211 hg w44 hbox hb; have n0_ := Aside0.mk (below_step z94_0 hb); have n1_ := Aside0.mk (hbox); have n2_ := Aside0.mk ((z94_2 : w.heap.size ≤ gb211)); have n3_ := Aside0.mk ((z94_2 : w.heap.size ≤ gb211)); clear HB; have HB := n0_; have BK211 := n1_; have GW211 := n2_; have GE211 := n3_; clear n0_ n1_ n2_ n3_; clear hb hbox hg; have hcz45_0 : w44.cell? ⟨gb211, 0, none⟩ = some (.int .i64 a0_0) := (bC_ BK211.out 0).trans rfl; have hcz45_1 : w44.cell? ⟨gb211, 1, none⟩ = some (.int .i64 a0_1) := (bC_ BK211.out 1).trans rfl; have hcz45_2 : w44.cell? ⟨gb211, 2, none⟩ = some (.int .i64 a0_2) := (bC_ BK211.out 2).trans rfl; have hcz45_3 : w44.cell? ⟨gb211, 3, none⟩ = some (.int .i64 a0_3) := (bC_ BK211.out 3).trans rfl; have hcz45_4 : w44.cell? ⟨gb211, 4, none⟩ = some (.int .i64 a0_4) := (bC_ BK211.out 4).trans rfl; have hcz45_5 : w44.cell? ⟨gb211, 5, none⟩ = some (.int .i64 a0_5) := (bC_ BK211.out 5).trans rfl; have hfz45_0 := bF_ BK211.out 0; have hfz45_1 := bF_ BK211.out 1; have hfz45_2 := bF_ BK211.out 2; have hfz45_3 := bF_ BK211.out 3; have hfz45_4 := bF_ BK211.out 4; have hfz45_5 := bF_ BK211.out 5) | ((with_reducible refine gate_callee (f := 110) rfl ?_); refine goesL_ (some 20) rfl rfl Try.func110 (by kernel_rfl) rfl #[.int .i64 a0_1, .int .i64 1] rfl z94_1 ?_; (with_reducible refine (spec_HasKind.calls a0_1 1 true _ A26.out).mono ?_); rintro e w' ⟨rfl, ⟨nd, rfl⟩⟩; refine ⟨_, rfl, ?_⟩) | (go_at_call 110; (with_reducible refine (spec_HasKind.calls a0_2 2 false _ A28.out).mono ?_); rintro e w' ⟨rfl, ⟨nd, rfl⟩⟩))
          go_ret
          exact ⟨by first | rfl | (simp [errW_none, errW_some] <;> rfl) | (simp [*, errW_none, errW_some] <;> rfl), by repeat (first | (with_reducible first | exact HB.out | apply bA_ | apply bN_ | apply bD_ | refine bS_ ?_ GE211.out) | exact HB.out)⟩
      · replace c27 := Bool.eq_false_iff.mpr c27
        subst c27
        have H1 : (some false) = some r := by rw [if_neg (show ¬ (false = true) by decide)] at H; exact H
        clear H
        have H := H1
        clear H1
        obtain rfl := Option.some.inj H
        go_enter Try.func94, Try.ntmps94
        go_wp2_with (first | ((with_reducible refine gate_dst (N := 1) rfl ?_); refine box_event ?hg (N := 1) ?hd (cs := #[.int .i64 a0_0, .int .i64 a0_1, .int .i64 a0_2, .int .i64 a0_3, .int .i64 a0_4, .int .i64 a0_5]) (t := 75) ?hr ?_; (case hd => rfl); (case hg => rfl); (case hr => first | (go_simp; done) | (go_simp; rfl)); intro gb211 hg w46 hbox hb; have n0_ := Aside0.mk (below_step z94_0 hb); have n1_ := Aside0.mk (hbox); have n2_ := Aside0.mk ((z94_2 : w.heap.size ≤ gb211)); have n3_ := Aside0.mk ((z94_2 : w.heap.size ≤ gb211)); clear HB; have HB := n0_; have BK211 := n1_; have GW211 := n2_; have GE211 := n3_; clear n0_ n1_ n2_ n3_; clear hb hbox hg; have hcz47_0 : w46.cell? ⟨gb211, 0, none⟩ = some (.int .i64 a0_0) := (bC_ BK211.out 0).trans rfl; have hcz47_1 : w46.cell? ⟨gb211, 1, none⟩ = some (.int .i64 a0_1) := (bC_ BK211.out 1).trans rfl; have hcz47_2 : w46.cell? ⟨gb211, 2, none⟩ = some (.int .i64 a0_2) := (bC_ BK211.out 2).trans rfl; have hcz47_3 : w46.cell? ⟨gb211, 3, none⟩ = some (.int .i64 a0_3) := (bC_ BK211.out 3).trans rfl; have hcz47_4 : w46.cell? ⟨gb211, 4, none⟩ = some (.int .i64 a0_4) := (bC_ BK211.out 4).trans rfl; have hcz47_5 : w46.cell? ⟨gb211, 5, none⟩ = some (.int .i64 a0_5) := (bC_ BK211.out 5).trans rfl; have hfz47_0 := bF_ BK211.out 0; have hfz47_1 := bF_ BK211.out 1; have hfz47_2 := bF_ BK211.out 2; have hfz47_3 := bF_ BK211.out 3; have hfz47_4 := bF_ BK211.out 4; have hfz47_5 := bF_ BK211.out 5) | ((with_reducible refine gate_callee (f := 110) rfl ?_); refine goesL_ (some 20) rfl rfl Try.func110 (by kernel_rfl) rfl #[.int .i64 a0_1, .int .i64 1] rfl z94_1 ?_; (with_reducible refine (spec_HasKind.calls a0_1 1 false _ A26.out).mono ?_); rintro e w' ⟨rfl, ⟨nd, rfl⟩⟩; refine ⟨_, rfl, ?_⟩))
        go_ret
        exact ⟨by first | rfl | (simp [errW_none, errW_some] <;> rfl) | (simp [*, errW_none, errW_some] <;> rfl), by repeat (first | (with_reducible first | exact HB.out | apply bA_ | apply bN_ | apply bD_ | refine bS_ ?_ GE211.out) | exact HB.out)⟩
    · rw [if_neg c25] at H
      have c25b0 : (a0_0 == 2) = false := beq_eq_false_iff_ne.mpr c25
      have c25b1 : (a0_0 != 2) = true := bne_iff_ne.mpr c25
      by_cases c48 : a0_0 = 3
      · rw [if_pos c48] at H
        have c48b0 : (a0_0 == 3) = true := beq_iff_eq.mpr c48
        have c48b1 : (a0_0 != 3) = false := bne_eq_false_iff_eq.mpr c48
        clear c48
        replace H := Option.bind_eq_some_iff.mp H
        obtain ⟨t222, A490, H⟩ := H
        replace H : (if t222 = true then ((spec_l1In.f a0_2 0 3).bind fun t223 => (if t223 = true then ((spec_l1In.f a0_3 0 9).bind fun t224 => (if t224 = true then ((spec_IsTime.f a0_4).bind fun t225 => (if t225 = true then ((spec_IsTime.f a0_5).bind fun t226 => (if t226 = true then (some (decide (a0_4 ≤ a0_5))) else (some false))) else (some false))) else (some false))) else (some false))) else (some false)) = some r := H
        have A49 := Aside0.mk A490
        clear A490
        by_cases c50 : t222 = true
        · subst c50
          have H1 : ((spec_l1In.f a0_2 0 3).bind fun t223 => (if t223 = true then ((spec_l1In.f a0_3 0 9).bind fun t224 => (if t224 = true then ((spec_IsTime.f a0_4).bind fun t225 => (if t225 = true then ((spec_IsTime.f a0_5).bind fun t226 => (if t226 = true then (some (decide (a0_4 ≤ a0_5))) else (some false))) else (some false))) else (some false))) else (some false))) = some r := by rw [if_pos rfl] at H; exact H
          clear H
          have H := H1
          clear H1
          replace H := Option.bind_eq_some_iff.mp H
          obtain ⟨t223, A510, H⟩ := H
          replace H : (if t223 = true then ((spec_l1In.f a0_3 0 9).bind fun t224 => (if t224 = true then ((spec_IsTime.f a0_4).bind fun t225 => (if t225 = true then ((spec_IsTime.f a0_5).bind fun t226 => (if t226 = true then (some (decide (a0_4 ≤ a0_5))) else (some false))) else (some false))) else (some false))) else (some false)) = some r := H
          have A51 := Aside0.mk A510
          clear A510
          by_cases c52 : t223 = true
          · subst c52
            have H1 : ((spec_l1In.f a0_3 0 9).bind fun t224 => (if t224 = true then ((spec_IsTime.f a0_4).bind fun t225 => (if t225 = true then ((spec_IsTime.f a0_5).bind fun t226 => (if t226 = true then (some (decide (a0_4 ≤ a0_5))) else (some false))) else (some false))) else (some false))) = some r := by rw [if_pos rfl] at H; exact H
            clear H
            have H := H1
            clear H1
            replace H := Option.bind_eq_some_iff.mp H
            obtain ⟨t224, A530, H⟩ := H
            replace H : (if t224 = true then ((spec_IsTime.f a0_4).bind fun t225 => (if t225 = true then ((spec_IsTime.f a0_5).bind fun t226 => (if t226 = true then (some (decide (a0_4 ≤ a0_5))) else (some false))) else (some false))) else (some false)) = some r := H
            have A53 := Aside0.mk A530
            clear A530
            by_cases c54 : t224 = true
            · subst c54
              have H1 : ((spec_IsTime.f a0_4).bind fun t225 => (if t225 = true then ((spec_IsTime.f a0_5).bind fun t226 => (if t226 = true then (some (decide (a0_4 ≤ a0_5))) else (some false))) else (some false))) = some r := by rw [if_pos rfl] at H; exact H
              clear H
              have H := H1
              clear H1
              replace H := Option.bind_eq_some_iff.mp H
              obtain ⟨t225, A550, H⟩ := H
              replace H : (if t225 = true then ((spec_IsTime.f a0_5).bind fun t226 => (if t226 = true then (some (decide (a0_4 ≤ a0_5))) else (some false))) else (some false)) = some r := H
              have A55 := Aside0.mk A550
              clear A550
              by_cases c56 : t225 = true
              · subst c56
                have H1 : ((spec_IsTime.f a0_5).bind fun t226 => (if t226 = true then (some (decide (a0_4 ≤ a0_5))) else (some false))) = some r := by rw [if_pos rfl] at H; exact H
                clear H
                have H := H1
                clear H1
                replace H := Option.bind_eq_some_iff.mp H
                obtain ⟨t226, A570, H⟩ := H
                replace H : (if t226 = true then (some (decide (a0_4 ≤ a0_5))) else (some false)) = some r := H
                have A57 := Aside0.mk A570
                clear A570
                by_cases c58 : t226 = true
                · subst c58
                  have H1 : (some (decide (a0_4 ≤ a0_5))) = some r := by rw [if_pos rfl] at H; exact H
                  clear H
                  have H := H1
                  clear H1
                  obtain rfl := Option.some.inj H
                  go_enter Try.func94, Try.ntmps94
                  go_wp2_with (first | ((with_reducible refine gate_dst (N := 1) rfl ?_); refine box_event ?hg (N := 1) ?hd (cs := #[.int .i64 a0_0, .int .i64 a0_1, .int .i64 a0_2, .int .i64 a0_3, .int .i64 a0_4, .int .i64 a0_5]) (t := 75) ?hr ?_; (case hd => rfl); (case hg => rfl); (case hr => first | (go_simp; done) | (go_simp; rfl)); intro gb211 hg w59 hbox hb; have n0_ := Aside0.mk (below_step z94_0 hb); have n1_ := Aside0.mk (hbox); have n2_ := Aside0.mk ((z94_2 : w.heap.size ≤ gb211)); have n3_ := Aside0.mk ((z94_2 : w.heap.size ≤ gb211)); clear HB; have HB := n0_; have BK211 := n1_; have GW211 := n2_; have GE211 := n3_; clear n0_ n1_ n2_ n3_; clear hb hbox hg; have hcz60_0 : w59.cell? ⟨gb211, 0, none⟩ = some (.int .i64 a0_0) := (bC_ BK211.out 0).trans rfl; have hcz60_1 : w59.cell? ⟨gb211, 1, none⟩ = some (.int .i64 a0_1) := (bC_ BK211.out 1).trans rfl; have hcz60_2 : w59.cell? ⟨gb211, 2, none⟩ = some (.int .i64 a0_2) := (bC_ BK211.out 2).trans rfl; have hcz60_3 : w59.cell? ⟨gb211, 3, none⟩ = some (.int .i64 a0_3) := (bC_ BK211.out 3).trans rfl; have hcz60_4 : w59.cell? ⟨gb211, 4, none⟩ = some (.int .i64 a0_4) := (bC_ BK211.out 4).trans rfl; have hcz60_5 : w59.cell? ⟨gb211, 5, none⟩ = some (.int .i64 a0_5) := (bC_ BK211.out 5).trans rfl; have hfz60_0 := bF_ BK211.out 0; have hfz60_1 := bF_ BK211.out 1; have hfz60_2 := bF_ BK211.out 2; have hfz60_3 := bF_ BK211.out 3; have hfz60_4 := bF_ BK211.out 4; have hfz60_5 := bF_ BK211.out 5) | ((with_reducible refine gate_callee (f := 110) rfl ?_); refine goesL_ (some 30) rfl rfl Try.func110 (by kernel_rfl) rfl #[.int .i64 a0_1, .int .i64 2] rfl z94_1 ?_; (with_reducible refine (spec_HasKind.calls a0_1 2 true _ A49.out).mono ?_); rintro e w' ⟨rfl, ⟨nd, rfl⟩⟩; refine ⟨_, rfl, ?_⟩) | (go_at_call 68; (with_reducible refine (spec_l1In.calls a0_2 0 3 true _ A51.out).mono ?_); rintro e w' ⟨rfl, ⟨nd, rfl⟩⟩) | (go_at_call 68; (with_reducible refine (spec_l1In.calls a0_3 0 9 true _ A53.out).mono ?_); rintro e w' ⟨rfl, ⟨nd, rfl⟩⟩) | (go_at_call 76; (with_reducible refine (spec_IsTime.calls a0_4 true _ A55.out).mono ?_); rintro e w' ⟨rfl, ⟨nd, rfl⟩⟩) | (go_at_call 76; (with_reducible refine (spec_IsTime.calls a0_5 true _ A57.out).mono ?_); rintro e w' ⟨rfl, ⟨nd, rfl⟩⟩))
                  go_ret
                  exact ⟨by first | rfl | (simp [errW_none, errW_some] <;> rfl) | (simp [*, errW_none, errW_some] <;> rfl), by repeat (first | (with_reducible first | exact HB.out | apply bA_ | apply bN_ | apply bD_ | refine bS_ ?_ GE211.out) | exact HB.out)⟩
                · replace c58 := Bool.eq_false_iff.mpr c58
                  subst c58
                  have H1 : (some false) = some r := by rw [if_neg (show ¬ (false = true) by decide)] at H; exact H
                  clear H
                  have H := H1
                  clear H1
                  obtain rfl := Option.some.inj H
                  go_enter Try.func94, Try.ntmps94
                  go_wp2_with (first | ((with_reducible refine gate_dst (N := 1) rfl ?_); refine box_event ?hg (N := 1) ?hd (cs := #[.int .i64 a0_0, .int .i64 a0_1, .int .i64 a0_2, .int .i64 a0_3, .int .i64 a0_4, .int .i64 a0_5]) (t := 75) ?hr ?_; (case hd => rfl); (case hg => rfl); (case hr => first | (go_simp; done) | (go_simp; rfl)); intro gb211 hg w61 hbox hb; have n0_ := Aside0.mk (below_step z94_0 hb); have n1_ := Aside0.mk (hbox); have n2_ := Aside0.mk ((z94_2 : w.heap.size ≤ gb211)); have n3_ := Aside0.mk ((z94_2 : w.heap.size ≤ gb211)); clear HB; have HB := n0_; have BK211 := n1_; have GW211 := n2_; have GE211 := n3_; clear n0_ n1_ n2_ n3_; clear hb hbox hg; have hcz62_0 : w61.cell? ⟨gb211, 0, none⟩ = some (.int .i64 a0_0) := (bC_ BK211.out 0).trans rfl; have hcz62_1 : w61.cell? ⟨gb211, 1, none⟩ = some (.int .i64 a0_1) := (bC_ BK211.out 1).trans rfl; have hcz62_2 : w61.cell? ⟨gb211, 2, none⟩ = some (.int .i64 a0_2) := (bC_ BK211.out 2).trans rfl; have hcz62_3 : w61.cell? ⟨gb211, 3, none⟩ = some (.int .i64 a0_3) := (bC_ BK211.out 3).trans rfl; have hcz62_4 : w61.cell? ⟨gb211, 4, none⟩ = some (.int .i64 a0_4) := (bC_ BK211.out 4).trans rfl; have hcz62_5 : w61.cell? ⟨gb211, 5, none⟩ = some (.int .i64 a0_5) := (bC_ BK211.out 5).trans rfl; have hfz62_0 := bF_ BK211.out 0; have hfz62_1 := bF_ BK211.out 1; have hfz62_2 := bF_ BK211.out 2; have hfz62_3 := bF_ BK211.out 3; have hfz62_4 := bF_ BK211.out 4; have hfz62_5 := bF_ BK211.out 5) | ((with_reducible refine gate_callee (f := 110) rfl ?_); refine goesL_ (some 30) rfl rfl Try.func110 (by kernel_rfl) rfl #[.int .i64 a0_1, .int .i64 2] rfl z94_1 ?_; (with_reducible refine (spec_HasKind.calls a0_1 2 true _ A49.out).mono ?_); rintro e w' ⟨rfl, ⟨nd, rfl⟩⟩; refine ⟨_, rfl, ?_⟩) | (go_at_call 68; (with_reducible refine (spec_l1In.calls a0_2 0 3 true _ A51.out).mono ?_); rintro e w' ⟨rfl, ⟨nd, rfl⟩⟩) | (go_at_call 68; (with_reducible refine (spec_l1In.calls a0_3 0 9 true _ A53.out).mono ?_); rintro e w' ⟨rfl, ⟨nd, rfl⟩⟩) | (go_at_call 76; (with_reducible refine (spec_IsTime.calls a0_4 true _ A55.out).mono ?_); rintro e w' ⟨rfl, ⟨nd, rfl⟩⟩) | (go_at_call 76; (with_reducible refine (spec_IsTime.calls a0_5 false _ A57.out).mono ?_); rintro e w' ⟨rfl, ⟨nd, rfl⟩⟩))
                  go_ret
                  exact ⟨by first | rfl | (simp [errW_none, errW_some] <;> rfl) | (simp [*, errW_none, errW_some] <;> rfl), by repeat (first | (with_reducible first | exact HB.out | apply bA_ | apply bN_ | apply bD_ | refine bS_ ?_ GE211.out) | exact HB.out)⟩
              · replace c56 := Bool.eq_false_iff.mpr c56
                subst c56
                have H1 : (some false) = some r := by rw [if_neg (show ¬ (false = true) by decide)] at H; exact H
                clear H
                have H := H1
                clear H1
                obtain rfl := Option.some.inj H
                go_enter Try.func94, Try.ntmps94
                go_wp2_with (first | ((with_reducible refine gate_dst (N := 1) rfl ?_); refine box_event ?hg (N := 1) ?hd (cs := #[.int .i64 a0_0, .int .i64 a0_1, .int .i64 a0_2, .int .i64 a0_3, .int .i64 a0_4, .int .i64 a0_5]) (t := 75) ?hr ?_; (case hd => rfl); (case hg => rfl); (case hr => first | (go_simp; done) | (go_simp; rfl)); intro gb211 hg w63 hbox hb; have n0_ := Aside0.mk (below_step z94_0 hb); have n1_ := Aside0.mk (hbox); have n2_ := Aside0.mk ((z94_2 : w.heap.size ≤ gb211)); have n3_ := Aside0.mk ((z94_2 : w.heap.size ≤ gb211)); clear HB; have HB := n0_; have BK211 := n1_; have GW211 := n2_; have GE211 := n3_; clear n0_ n1_ n2_ n3_; clear hb hbox hg; have hcz64_0 : w63.cell? ⟨gb211, 0, none⟩ = some (.int .i64 a0_0) := (bC_ BK211.out 0).trans rfl; have hcz64_1 : w63.cell? ⟨gb211, 1, none⟩ = some (.int .i64 a0_1) := (bC_ BK211.out 1).trans rfl; have hcz64_2 : w63.cell? ⟨gb211, 2, none⟩ = some (.int .i64 a0_2) := (bC_ BK211.out 2).trans rfl; have hcz64_3 : w63.cell? ⟨gb211, 3, none⟩ = some (.int .i64 a0_3) := (bC_ BK211.out 3).trans rfl; have hcz64_4 : w63.cell? ⟨gb211, 4, none⟩ = some (.int .i64 a0_4) := (bC_ BK211.out 4).trans rfl; have hcz64_5 : w63.cell? ⟨gb211, 5, none⟩ = some (.int .i64 a0_5) := (bC_ BK211.out 5).trans rfl; have hfz64_0 := bF_ BK211.out 0; have hfz64_1 := bF_ BK211.out 1; have hfz64_2 := bF_ BK211.out 2; have hfz64_3 := bF_ BK211.out 3; have hfz64_4 := bF_ BK211.out 4; have hfz64_5 := bF_ BK211.out 5) | ((with_reducible refine gate_callee (f := 110) rfl ?_); refine goesL_ (some 30) rfl rfl Try.func110 (by kernel_rfl) rfl #[.int .i64 a0_1, .int .i64 2] rfl z94_1 ?_; (with_reducible refine (spec_HasKind.calls a0_1 2 true _ A49.out).mono ?_); rintro e w' ⟨rfl, ⟨nd, rfl⟩⟩; refine ⟨_, rfl, ?_⟩) | (go_at_call 68; (with_reducible refine (spec_l1In.calls a0_2 0 3 true _ A51.out).mono ?_); rintro e w' ⟨rfl, ⟨nd, rfl⟩⟩) | (go_at_call 68; (with_reducible refine (spec_l1In.calls a0_3 0 9 true _ A53.out).mono ?_); rintro e w' ⟨rfl, ⟨nd, rfl⟩⟩) | (go_at_call 76; (with_reducible refine (spec_IsTime.calls a0_4 false _ A55.out).mono ?_); rintro e w' ⟨rfl, ⟨nd, rfl⟩⟩))
                go_ret
                exact ⟨by first | rfl | (simp [errW_none, errW_some] <;> rfl) | (simp [*, errW_none, errW_some] <;> rfl), by repeat (first | (with_reducible first | exact HB.out | apply bA_ | apply bN_ | apply bD_ | refine bS_ ?_ GE211.out) | exact HB.out)⟩
            · replace c54 := Bool.eq_false_iff.mpr c54
              subst c54
              have H1 : (some false) = some r := by rw [if_neg (show ¬ (false = true) by decide)] at H; exact H
              clear H
              have H := H1
              clear H1
              obtain rfl := Option.some.inj H
              go_enter Try.func94, Try.ntmps94
              go_wp2_with (first | ((with_reducible refine gate_dst (N := 1) rfl ?_); refine box_event ?hg (N := 1) ?hd (cs := #[.int .i64 a0_0, .int .i64 a0_1, .int .i64 a0_2, .int .i64 a0_3, .int .i64 a0_4, .int .i64 a0_5]) (t := 75) ?hr ?_; (case hd => rfl); (case hg => rfl); (case hr => first | (go_simp; done) | (go_simp; rfl)); intro gb211 hg w65 hbox hb; have n0_ := Aside0.mk (below_step z94_0 hb); have n1_ := Aside0.mk (hbox); have n2_ := Aside0.mk ((z94_2 : w.heap.size ≤ gb211)); have n3_ := Aside0.mk ((z94_2 : w.heap.size ≤ gb211)); clear HB; have HB := n0_; have BK211 := n1_; have GW211 := n2_; have GE211 := n3_; clear n0_ n1_ n2_ n3_; clear hb hbox hg; have hcz66_0 : w65.cell? ⟨gb211, 0, none⟩ = some (.int .i64 a0_0) := (bC_ BK211.out 0).trans rfl; have hcz66_1 : w65.cell? ⟨gb211, 1, none⟩ = some (.int .i64 a0_1) := (bC_ BK211.out 1).trans rfl; have hcz66_2 : w65.cell? ⟨gb211, 2, none⟩ = some (.int .i64 a0_2) := (bC_ BK211.out 2).trans rfl; have hcz66_3 : w65.cell? ⟨gb211, 3, none⟩ = some (.int .i64 a0_3) := (bC_ BK211.out 3).trans rfl; have hcz66_4 : w65.cell? ⟨gb211, 4, none⟩ = some (.int .i64 a0_4) := (bC_ BK211.out 4).trans rfl; have hcz66_5 : w65.cell? ⟨gb211, 5, none⟩ = some (.int .i64 a0_5) := (bC_ BK211.out 5).trans rfl; have hfz66_0 := bF_ BK211.out 0; have hfz66_1 := bF_ BK211.out 1; have hfz66_2 := bF_ BK211.out 2; have hfz66_3 := bF_ BK211.out 3; have hfz66_4 := bF_ BK211.out 4; have hfz66_5 := bF_ BK211.out 5) | ((with_reducible refine gate_callee (f := 110) rfl ?_); refine goesL_ (some 30) rfl rfl Try.func110 (by kernel_rfl) rfl #[.int .i64 a0_1, .int .i64 2] rfl z94_1 ?_; (with_reducible refine (spec_HasKind.calls a0_1 2 true _ A49.out).mono ?_); rintro e w' ⟨rfl, ⟨nd, rfl⟩⟩; refine ⟨_, rfl, ?_⟩) | (go_at_call 68; (with_reducible refine (spec_l1In.calls a0_2 0 3 true _ A51.out).mono ?_); rintro e w' ⟨rfl, ⟨nd, rfl⟩⟩) | (go_at_call 68; (with_reducible refine (spec_l1In.calls a0_3 0 9 false _ A53.out).mono ?_); rintro e w' ⟨rfl, ⟨nd, rfl⟩⟩))
              go_ret
              exact ⟨by first | rfl | (simp [errW_none, errW_some] <;> rfl) | (simp [*, errW_none, errW_some] <;> rfl), by repeat (first | (with_reducible first | exact HB.out | apply bA_ | apply bN_ | apply bD_ | refine bS_ ?_ GE211.out) | exact HB.out)⟩
          · replace c52 := Bool.eq_false_iff.mpr c52
            subst c52
            have H1 : (some false) = some r := by rw [if_neg (show ¬ (false = true) by decide)] at H; exact H
            clear H
            have H := H1
            clear H1
            obtain rfl := Option.some.inj H
            go_enter Try.func94, Try.ntmps94
            go_wp2_with (first | ((with_reducible refine gate_dst (N := 1) rfl ?_); refine box_event ?hg (N := 1) ?hd (cs := #[.int .i64 a0_0, .int .i64 a0_1, .int .i64 a0_2, .int .i64 a0_3, .int .i64 a0_4, .int .i64 a0_5]) (t := 75) ?hr ?_; (case hd => rfl); (case hg => rfl); (case hr => first | (go_simp; done) | (go_simp; rfl)); intro gb211 hg w67 hbox hb; have n0_ := Aside0.mk (below_step z94_0 hb); have n1_ := Aside0.mk (hbox); have n2_ := Aside0.mk ((z94_2 : w.heap.size ≤ gb211)); have n3_ := Aside0.mk ((z94_2 : w.heap.size ≤ gb211)); clear HB; have HB := n0_; have BK211 := n1_; have GW211 := n2_; have GE211 := n3_; clear n0_ n1_ n2_ n3_; clear hb hbox hg; have hcz68_0 : w67.cell? ⟨gb211, 0, none⟩ = some (.int .i64 a0_0) := (bC_ BK211.out 0).trans rfl; have hcz68_1 : w67.cell? ⟨gb211, 1, none⟩ = some (.int .i64 a0_1) := (bC_ BK211.out 1).trans rfl; have hcz68_2 : w67.cell? ⟨gb211, 2, none⟩ = some (.int .i64 a0_2) := (bC_ BK211.out 2).trans rfl; have hcz68_3 : w67.cell? ⟨gb211, 3, none⟩ = some (.int .i64 a0_3) := (bC_ BK211.out 3).trans rfl; have hcz68_4 : w67.cell? ⟨gb211, 4, none⟩ = some (.int .i64 a0_4) := (bC_ BK211.out 4).trans rfl; have hcz68_5 : w67.cell? ⟨gb211, 5, none⟩ = some (.int .i64 a0_5) := (bC_ BK211.out 5).trans rfl; have hfz68_0 := bF_ BK211.out 0; have hfz68_1 := bF_ BK211.out 1; have hfz68_2 := bF_ BK211.out 2; have hfz68_3 := bF_ BK211.out 3; have hfz68_4 := bF_ BK211.out 4; have hfz68_5 := bF_ BK211.out 5) | ((with_reducible refine gate_callee (f := 110) rfl ?_); refine goesL_ (some 30) rfl rfl Try.func110 (by kernel_rfl) rfl #[.int .i64 a0_1, .int .i64 2] rfl z94_1 ?_; (with_reducible refine (spec_HasKind.calls a0_1 2 true _ A49.out).mono ?_); rintro e w' ⟨rfl, ⟨nd, rfl⟩⟩; refine ⟨_, rfl, ?_⟩) | (go_at_call 68; (with_reducible refine (spec_l1In.calls a0_2 0 3 false _ A51.out).mono ?_); rintro e w' ⟨rfl, ⟨nd, rfl⟩⟩))
            go_ret
            exact ⟨by first | rfl | (simp [errW_none, errW_some] <;> rfl) | (simp [*, errW_none, errW_some] <;> rfl), by repeat (first | (with_reducible first | exact HB.out | apply bA_ | apply bN_ | apply bD_ | refine bS_ ?_ GE211.out) | exact HB.out)⟩
        · replace c50 := Bool.eq_false_iff.mpr c50
          subst c50
          have H1 : (some false) = some r := by rw [if_neg (show ¬ (false = true) by decide)] at H; exact H
          clear H
          have H := H1
          clear H1
          obtain rfl := Option.some.inj H
          go_enter Try.func94, Try.ntmps94
          go_wp2_with (first | ((with_reducible refine gate_dst (N := 1) rfl ?_); refine box_event ?hg (N := 1) ?hd (cs := #[.int .i64 a0_0, .int .i64 a0_1, .int .i64 a0_2, .int .i64 a0_3, .int .i64 a0_4, .int .i64 a0_5]) (t := 75) ?hr ?_; (case hd => rfl); (case hg => rfl); (case hr => first | (go_simp; done) | (go_simp; rfl)); intro gb211 hg w69 hbox hb; have n0_ := Aside0.mk (below_step z94_0 hb); have n1_ := Aside0.mk (hbox); have n2_ := Aside0.mk ((z94_2 : w.heap.size ≤ gb211)); have n3_ := Aside0.mk ((z94_2 : w.heap.size ≤ gb211)); clear HB; have HB := n0_; have BK211 := n1_; have GW211 := n2_; have GE211 := n3_; clear n0_ n1_ n2_ n3_; clear hb hbox hg; have hcz70_0 : w69.cell? ⟨gb211, 0, none⟩ = some (.int .i64 a0_0) := (bC_ BK211.out 0).trans rfl; have hcz70_1 : w69.cell? ⟨gb211, 1, none⟩ = some (.int .i64 a0_1) := (bC_ BK211.out 1).trans rfl; have hcz70_2 : w69.cell? ⟨gb211, 2, none⟩ = some (.int .i64 a0_2) := (bC_ BK211.out 2).trans rfl; have hcz70_3 : w69.cell? ⟨gb211, 3, none⟩ = some (.int .i64 a0_3) := (bC_ BK211.out 3).trans rfl; have hcz70_4 : w69.cell? ⟨gb211, 4, none⟩ = some (.int .i64 a0_4) := (bC_ BK211.out 4).trans rfl; have hcz70_5 : w69.cell? ⟨gb211, 5, none⟩ = some (.int .i64 a0_5) := (bC_ BK211.out 5).trans rfl; have hfz70_0 := bF_ BK211.out 0; have hfz70_1 := bF_ BK211.out 1; have hfz70_2 := bF_ BK211.out 2; have hfz70_3 := bF_ BK211.out 3; have hfz70_4 := bF_ BK211.out 4; have hfz70_5 := bF_ BK211.out 5) | ((with_reducible refine gate_callee (f := 110) rfl ?_); refine goesL_ (some 30) rfl rfl Try.func110 (by kernel_rfl) rfl #[.int .i64 a0_1, .int .i64 2] rfl z94_1 ?_; (with_reducible refine (spec_HasKind.calls a0_1 2 false _ A49.out).mono ?_); rintro e w' ⟨rfl, ⟨nd, rfl⟩⟩; refine ⟨_, rfl, ?_⟩))
          go_ret
          exact ⟨by first | rfl | (simp [errW_none, errW_some] <;> rfl) | (simp [*, errW_none, errW_some] <;> rfl), by repeat (first | (with_reducible first | exact HB.out | apply bA_ | apply bN_ | apply bD_ | refine bS_ ?_ GE211.out) | exact HB.out)⟩
      · rw [if_neg c48] at H
        have c48b0 : (a0_0 == 3) = false := beq_eq_false_iff_ne.mpr c48
        have c48b1 : (a0_0 != 3) = true := bne_iff_ne.mpr c48
        by_cases c71 : a0_0 = 4
        · rw [if_pos c71] at H
          have c71b0 : (a0_0 == 4) = true := beq_iff_eq.mpr c71
          have c71b1 : (a0_0 != 4) = false := bne_eq_false_iff_eq.mpr c71
          clear c71
          replace H := Option.bind_eq_some_iff.mp H
          obtain ⟨t227, A720, H⟩ := H
          replace H : (if t227 = true then ((spec_l1In.f a0_2 0 3).bind fun t228 => (if t228 = true then ((spec_l1In.f a0_3 0 9).bind fun t229 => (if t229 = true then ((spec_IsTime.f a0_4).bind fun t230 => (if t230 = true then ((spec_IsTime.f a0_5).bind fun t231 => (if t231 = true then (some (decide (a0_4 ≤ a0_5))) else (some false))) else (some false))) else (some false))) else (some false))) else (some false)) = some r := H
          have A72 := Aside0.mk A720
          clear A720
          by_cases c73 : t227 = true
          · subst c73
            have H1 : ((spec_l1In.f a0_2 0 3).bind fun t228 => (if t228 = true then ((spec_l1In.f a0_3 0 9).bind fun t229 => (if t229 = true then ((spec_IsTime.f a0_4).bind fun t230 => (if t230 = true then ((spec_IsTime.f a0_5).bind fun t231 => (if t231 = true then (some (decide (a0_4 ≤ a0_5))) else (some false))) else (some false))) else (some false))) else (some false))) = some r := by rw [if_pos rfl] at H; exact H
            clear H
            have H := H1
            clear H1
            replace H := Option.bind_eq_some_iff.mp H
            obtain ⟨t228, A740, H⟩ := H
            replace H : (if t228 = true then ((spec_l1In.f a0_3 0 9).bind fun t229 => (if t229 = true then ((spec_IsTime.f a0_4).bind fun t230 => (if t230 = true then ((spec_IsTime.f a0_5).bind fun t231 => (if t231 = true then (some (decide (a0_4 ≤ a0_5))) else (some false))) else (some false))) else (some false))) else (some false)) = some r := H
            have A74 := Aside0.mk A740
            clear A740
            by_cases c75 : t228 = true
            · subst c75
              have H1 : ((spec_l1In.f a0_3 0 9).bind fun t229 => (if t229 = true then ((spec_IsTime.f a0_4).bind fun t230 => (if t230 = true then ((spec_IsTime.f a0_5).bind fun t231 => (if t231 = true then (some (decide (a0_4 ≤ a0_5))) else (some false))) else (some false))) else (some false))) = some r := by rw [if_pos rfl] at H; exact H
              clear H
              have H := H1
              clear H1
              replace H := Option.bind_eq_some_iff.mp H
              obtain ⟨t229, A760, H⟩ := H
              replace H : (if t229 = true then ((spec_IsTime.f a0_4).bind fun t230 => (if t230 = true then ((spec_IsTime.f a0_5).bind fun t231 => (if t231 = true then (some (decide (a0_4 ≤ a0_5))) else (some false))) else (some false))) else (some false)) = some r := H
              have A76 := Aside0.mk A760
              clear A760
              by_cases c77 : t229 = true
              · subst c77
                have H1 : ((spec_IsTime.f a0_4).bind fun t230 => (if t230 = true then ((spec_IsTime.f a0_5).bind fun t231 => (if t231 = true then (some (decide (a0_4 ≤ a0_5))) else (some false))) else (some false))) = some r := by rw [if_pos rfl] at H; exact H
                clear H
                have H := H1
                clear H1
                replace H := Option.bind_eq_some_iff.mp H
                obtain ⟨t230, A780, H⟩ := H
                replace H : (if t230 = true then ((spec_IsTime.f a0_5).bind fun t231 => (if t231 = true then (some (decide (a0_4 ≤ a0_5))) else (some false))) else (some false)) = some r := H
                have A78 := Aside0.mk A780
                clear A780
                by_cases c79 : t230 = true
                · subst c79
                  have H1 : ((spec_IsTime.f a0_5).bind fun t231 => (if t231 = true then (some (decide (a0_4 ≤ a0_5))) else (some false))) = some r := by rw [if_pos rfl] at H; exact H
                  clear H
                  have H := H1
                  clear H1
                  replace H := Option.bind_eq_some_iff.mp H
                  obtain ⟨t231, A800, H⟩ := H
                  replace H : (if t231 = true then (some (decide (a0_4 ≤ a0_5))) else (some false)) = some r := H
                  have A80 := Aside0.mk A800
                  clear A800
                  by_cases c81 : t231 = true
                  · subst c81
                    have H1 : (some (decide (a0_4 ≤ a0_5))) = some r := by rw [if_pos rfl] at H; exact H
                    clear H
                    have H := H1
                    clear H1
                    obtain rfl := Option.some.inj H
                    go_enter Try.func94, Try.ntmps94
                    go_wp2_with (first | ((with_reducible refine gate_dst (N := 1) rfl ?_); refine box_event ?hg (N := 1) ?hd (cs := #[.int .i64 a0_0, .int .i64 a0_1, .int .i64 a0_2, .int .i64 a0_3, .int .i64 a0_4, .int .i64 a0_5]) (t := 75) ?hr ?_; (case hd => rfl); (case hg => rfl); (case hr => first | (go_simp; done) | (go_simp; rfl)); intro gb211 hg w82 hbox hb; have n0_ := Aside0.mk (below_step z94_0 hb); have n1_ := Aside0.mk (hbox); have n2_ := Aside0.mk ((z94_2 : w.heap.size ≤ gb211)); have n3_ := Aside0.mk ((z94_2 : w.heap.size ≤ gb211)); clear HB; have HB := n0_; have BK211 := n1_; have GW211 := n2_; have GE211 := n3_; clear n0_ n1_ n2_ n3_; clear hb hbox hg; have hcz83_0 : w82.cell? ⟨gb211, 0, none⟩ = some (.int .i64 a0_0) := (bC_ BK211.out 0).trans rfl; have hcz83_1 : w82.cell? ⟨gb211, 1, none⟩ = some (.int .i64 a0_1) := (bC_ BK211.out 1).trans rfl; have hcz83_2 : w82.cell? ⟨gb211, 2, none⟩ = some (.int .i64 a0_2) := (bC_ BK211.out 2).trans rfl; have hcz83_3 : w82.cell? ⟨gb211, 3, none⟩ = some (.int .i64 a0_3) := (bC_ BK211.out 3).trans rfl; have hcz83_4 : w82.cell? ⟨gb211, 4, none⟩ = some (.int .i64 a0_4) := (bC_ BK211.out 4).trans rfl; have hcz83_5 : w82.cell? ⟨gb211, 5, none⟩ = some (.int .i64 a0_5) := (bC_ BK211.out 5).trans rfl; have hfz83_0 := bF_ BK211.out 0; have hfz83_1 := bF_ BK211.out 1; have hfz83_2 := bF_ BK211.out 2; have hfz83_3 := bF_ BK211.out 3; have hfz83_4 := bF_ BK211.out 4; have hfz83_5 := bF_ BK211.out 5) | ((with_reducible refine gate_callee (f := 110) rfl ?_); refine goesL_ (some 40) rfl rfl Try.func110 (by kernel_rfl) rfl #[.int .i64 a0_1, .int .i64 3] rfl z94_1 ?_; (with_reducible refine (spec_HasKind.calls a0_1 3 true _ A72.out).mono ?_); rintro e w' ⟨rfl, ⟨nd, rfl⟩⟩; refine ⟨_, rfl, ?_⟩) | (go_at_call 68; (with_reducible refine (spec_l1In.calls a0_2 0 3 true _ A74.out).mono ?_); rintro e w' ⟨rfl, ⟨nd, rfl⟩⟩) | (go_at_call 68; (with_reducible refine (spec_l1In.calls a0_3 0 9 true _ A76.out).mono ?_); rintro e w' ⟨rfl, ⟨nd, rfl⟩⟩) | (go_at_call 76; (with_reducible refine (spec_IsTime.calls a0_4 true _ A78.out).mono ?_); rintro e w' ⟨rfl, ⟨nd, rfl⟩⟩) | (go_at_call 76; (with_reducible refine (spec_IsTime.calls a0_5 true _ A80.out).mono ?_); rintro e w' ⟨rfl, ⟨nd, rfl⟩⟩))
                    go_ret
                    exact ⟨by first | rfl | (simp [errW_none, errW_some] <;> rfl) | (simp [*, errW_none, errW_some] <;> rfl), by repeat (first | (with_reducible first | exact HB.out | apply bA_ | apply bN_ | apply bD_ | refine bS_ ?_ GE211.out) | exact HB.out)⟩
                  · replace c81 := Bool.eq_false_iff.mpr c81
                    subst c81
                    have H1 : (some false) = some r := by rw [if_neg (show ¬ (false = true) by decide)] at H; exact H
                    clear H
                    have H := H1
                    clear H1
                    obtain rfl := Option.some.inj H
                    go_enter Try.func94, Try.ntmps94
                    go_wp2_with (first | ((with_reducible refine gate_dst (N := 1) rfl ?_); refine box_event ?hg (N := 1) ?hd (cs := #[.int .i64 a0_0, .int .i64 a0_1, .int .i64 a0_2, .int .i64 a0_3, .int .i64 a0_4, .int .i64 a0_5]) (t := 75) ?hr ?_; (case hd => rfl); (case hg => rfl); (case hr => first | (go_simp; done) | (go_simp; rfl)); intro gb211 hg w84 hbox hb; have n0_ := Aside0.mk (below_step z94_0 hb); have n1_ := Aside0.mk (hbox); have n2_ := Aside0.mk ((z94_2 : w.heap.size ≤ gb211)); have n3_ := Aside0.mk ((z94_2 : w.heap.size ≤ gb211)); clear HB; have HB := n0_; have BK211 := n1_; have GW211 := n2_; have GE211 := n3_; clear n0_ n1_ n2_ n3_; clear hb hbox hg; have hcz85_0 : w84.cell? ⟨gb211, 0, none⟩ = some (.int .i64 a0_0) := (bC_ BK211.out 0).trans rfl; have hcz85_1 : w84.cell? ⟨gb211, 1, none⟩ = some (.int .i64 a0_1) := (bC_ BK211.out 1).trans rfl; have hcz85_2 : w84.cell? ⟨gb211, 2, none⟩ = some (.int .i64 a0_2) := (bC_ BK211.out 2).trans rfl; have hcz85_3 : w84.cell? ⟨gb211, 3, none⟩ = some (.int .i64 a0_3) := (bC_ BK211.out 3).trans rfl; have hcz85_4 : w84.cell? ⟨gb211, 4, none⟩ = some (.int .i64 a0_4) := (bC_ BK211.out 4).trans rfl; have hcz85_5 : w84.cell? ⟨gb211, 5, none⟩ = some (.int .i64 a0_5) := (bC_ BK211.out 5).trans rfl; have hfz85_0 := bF_ BK211.out 0; have hfz85_1 := bF_ BK211.out 1; have hfz85_2 := bF_ BK211.out 2; have hfz85_3 := bF_ BK211.out 3; have hfz85_4 := bF_ BK211.out 4; have hfz85_5 := bF_ BK211.out 5) | ((with_reducible refine gate_callee (f := 110) rfl ?_); refine goesL_ (some 40) rfl rfl Try.func110 (by kernel_rfl) rfl #[.int .i64 a0_1, .int .i64 3] rfl z94_1 ?_; (with_reducible refine (spec_HasKind.calls a0_1 3 true _ A72.out).mono ?_); rintro e w' ⟨rfl, ⟨nd, rfl⟩⟩; refine ⟨_, rfl, ?_⟩) | (go_at_call 68; (with_reducible refine (spec_l1In.calls a0_2 0 3 true _ A74.out).mono ?_); rintro e w' ⟨rfl, ⟨nd, rfl⟩⟩) | (go_at_call 68; (with_reducible refine (spec_l1In.calls a0_3 0 9 true _ A76.out).mono ?_); rintro e w' ⟨rfl, ⟨nd, rfl⟩⟩) | (go_at_call 76; (with_reducible refine (spec_IsTime.calls a0_4 true _ A78.out).mono ?_); rintro e w' ⟨rfl, ⟨nd, rfl⟩⟩) | (go_at_call 76; (with_reducible refine (spec_IsTime.calls a0_5 false _ A80.out).mono ?_); rintro e w' ⟨rfl, ⟨nd, rfl⟩⟩))
                    go_ret
                    exact ⟨by first | rfl | (simp [errW_none, errW_some] <;> rfl) | (simp [*, errW_none, errW_some] <;> rfl), by repeat (first | (with_reducible first | exact HB.out | apply bA_ | apply bN_ | apply bD_ | refine bS_ ?_ GE211.out) | exact HB.out)⟩
                · replace c79 := Bool.eq_false_iff.mpr c79
                  subst c79
                  have H1 : (some false) = some r := by rw [if_neg (show ¬ (false = true) by decide)] at H; exact H
                  clear H
                  have H := H1
                  clear H1
                  obtain rfl := Option.some.inj H
                  go_enter Try.func94, Try.ntmps94
                  go_wp2_with (first | ((with_reducible refine gate_dst (N := 1) rfl ?_); refine box_event ?hg (N := 1) ?hd (cs := #[.int .i64 a0_0, .int .i64 a0_1, .int .i64 a0_2, .int .i64 a0_3, .int .i64 a0_4, .int .i64 a0_5]) (t := 75) ?hr ?_; (case hd => rfl); (case hg => rfl); (case hr => first | (go_simp; done) | (go_simp; rfl)); intro gb211 hg w86 hbox hb; have n0_ := Aside0.mk (below_step z94_0 hb); have n1_ := Aside0.mk (hbox); have n2_ := Aside0.mk ((z94_2 : w.heap.size ≤ gb211)); have n3_ := Aside0.mk ((z94_2 : w.heap.size ≤ gb211)); clear HB; have HB := n0_; have BK211 := n1_; have GW211 := n2_; have GE211 := n3_; clear n0_ n1_ n2_ n3_; clear hb hbox hg; have hcz87_0 : w86.cell? ⟨gb211, 0, none⟩ = some (.int .i64 a0_0) := (bC_ BK211.out 0).trans rfl; have hcz87_1 : w86.cell? ⟨gb211, 1, none⟩ = some (.int .i64 a0_1) := (bC_ BK211.out 1).trans rfl; have hcz87_2 : w86.cell? ⟨gb211, 2, none⟩ = some (.int .i64 a0_2) := (bC_ BK211.out 2).trans rfl; have hcz87_3 : w86.cell? ⟨gb211, 3, none⟩ = some (.int .i64 a0_3) := (bC_ BK211.out 3).trans rfl; have hcz87_4 : w86.cell? ⟨gb211, 4, none⟩ = some (.int .i64 a0_4) := (bC_ BK211.out 4).trans rfl; have hcz87_5 : w86.cell? ⟨gb211, 5, none⟩ = some (.int .i64 a0_5) := (bC_ BK211.out 5).trans rfl; have hfz87_0 := bF_ BK211.out 0; have hfz87_1 := bF_ BK211.out 1; have hfz87_2 := bF_ BK211.out 2; have hfz87_3 := bF_ BK211.out 3; have hfz87_4 := bF_ BK211.out 4; have hfz87_5 := bF_ BK211.out 5) | ((with_reducible refine gate_callee (f := 110) rfl ?_); refine goesL_ (some 40) rfl rfl Try.func110 (by kernel_rfl) rfl #[.int .i64 a0_1, .int .i64 3] rfl z94_1 ?_; (with_reducible refine (spec_HasKind.calls a0_1 3 true _ A72.out).mono ?_); rintro e w' ⟨rfl, ⟨nd, rfl⟩⟩; refine ⟨_, rfl, ?_⟩) | (go_at_call 68; (with_reducible refine (spec_l1In.calls a0_2 0 3 true _ A74.out).mono ?_); rintro e w' ⟨rfl, ⟨nd, rfl⟩⟩) | (go_at_call 68; (with_reducible refine (spec_l1In.calls a0_3 0 9 true _ A76.out).mono ?_); rintro e w' ⟨rfl, ⟨nd, rfl⟩⟩) | (go_at_call 76; (with_reducible refine (spec_IsTime.calls a0_4 false _ A78.out).mono ?_); rintro e w' ⟨rfl, ⟨nd, rfl⟩⟩))
                  go_ret
                  exact ⟨by first | rfl | (simp [errW_none, errW_some] <;> rfl) | (simp [*, errW_none, errW_some] <;> rfl), by repeat (first | (with_reducible first | exact HB.out | apply bA_ | apply bN_ | apply bD_ | refine bS_ ?_ GE211.out) | exact HB.out)⟩
              · replace c77 := Bool.eq_false_iff.mpr c77
                subst c77
                have H1 : (some false) = some r := by rw [if_neg (show ¬ (false = true) by decide)] at H; exact H
                clear H
                have H := H1
                clear H1
                obtain rfl := Option.some.inj H
                go_enter Try.func94, Try.ntmps94
                go_wp2_with (first | ((with_reducible refine gate_dst (N := 1) rfl ?_); refine box_event ?hg (N := 1) ?hd (cs := #[.int .i64 a0_0, .int .i64 a0_1, .int .i64 a0_2, .int .i64 a0_3, .int .i64 a0_4, .int .i64 a0_5]) (t := 75) ?hr ?_; (case hd => rfl); (case hg => rfl); (case hr => first | (go_simp; done) | (go_simp; rfl)); intro gb211 hg w88 hbox hb; have n0_ := Aside0.mk (below_step z94_0 hb); have n1_ := Aside0.mk (hbox); have n2_ := Aside0.mk ((z94_2 : w.heap.size ≤ gb211)); have n3_ := Aside0.mk ((z94_2 : w.heap.size ≤ gb211)); clear HB; have HB := n0_; have BK211 := n1_; have GW211 := n2_; have GE211 := n3_; clear n0_ n1_ n2_ n3_; clear hb hbox hg; have hcz89_0 : w88.cell? ⟨gb211, 0, none⟩ = some (.int .i64 a0_0) := (bC_ BK211.out 0).trans rfl; have hcz89_1 : w88.cell? ⟨gb211, 1, none⟩ = some (.int .i64 a0_1) := (bC_ BK211.out 1).trans rfl; have hcz89_2 : w88.cell? ⟨gb211, 2, none⟩ = some (.int .i64 a0_2) := (bC_ BK211.out 2).trans rfl; have hcz89_3 : w88.cell? ⟨gb211, 3, none⟩ = some (.int .i64 a0_3) := (bC_ BK211.out 3).trans rfl; have hcz89_4 : w88.cell? ⟨gb211, 4, none⟩ = some (.int .i64 a0_4) := (bC_ BK211.out 4).trans rfl; have hcz89_5 : w88.cell? ⟨gb211, 5, none⟩ = some (.int .i64 a0_5) := (bC_ BK211.out 5).trans rfl; have hfz89_0 := bF_ BK211.out 0; have hfz89_1 := bF_ BK211.out 1; have hfz89_2 := bF_ BK211.out 2; have hfz89_3 := bF_ BK211.out 3; have hfz89_4 := bF_ BK211.out 4; have hfz89_5 := bF_ BK211.out 5) | ((with_reducible refine gate_callee (f := 110) rfl ?_); refine goesL_ (some 40) rfl rfl Try.func110 (by kernel_rfl) rfl #[.int .i64 a0_1, .int .i64 3] rfl z94_1 ?_; (with_reducible refine (spec_HasKind.calls a0_1 3 true _ A72.out).mono ?_); rintro e w' ⟨rfl, ⟨nd, rfl⟩⟩; refine ⟨_, rfl, ?_⟩) | (go_at_call 68; (with_reducible refine (spec_l1In.calls a0_2 0 3 true _ A74.out).mono ?_); rintro e w' ⟨rfl, ⟨nd, rfl⟩⟩) | (go_at_call 68; (with_reducible refine (spec_l1In.calls a0_3 0 9 false _ A76.out).mono ?_); rintro e w' ⟨rfl, ⟨nd, rfl⟩⟩))
                go_ret
                exact ⟨by first | rfl | (simp [errW_none, errW_some] <;> rfl) | (simp [*, errW_none, errW_some] <;> rfl), by repeat (first | (with_reducible first | exact HB.out | apply bA_ | apply bN_ | apply bD_ | refine bS_ ?_ GE211.out) | exact HB.out)⟩
            · replace c75 := Bool.eq_false_iff.mpr c75
              subst c75
              have H1 : (some false) = some r := by rw [if_neg (show ¬ (false = true) by decide)] at H; exact H
              clear H
              have H := H1
              clear H1
              obtain rfl := Option.some.inj H
              go_enter Try.func94, Try.ntmps94
              go_wp2_with (first | ((with_reducible refine gate_dst (N := 1) rfl ?_); refine box_event ?hg (N := 1) ?hd (cs := #[.int .i64 a0_0, .int .i64 a0_1, .int .i64 a0_2, .int .i64 a0_3, .int .i64 a0_4, .int .i64 a0_5]) (t := 75) ?hr ?_; (case hd => rfl); (case hg => rfl); (case hr => first | (go_simp; done) | (go_simp; rfl)); intro gb211 hg w90 hbox hb; have n0_ := Aside0.mk (below_step z94_0 hb); have n1_ := Aside0.mk (hbox); have n2_ := Aside0.mk ((z94_2 : w.heap.size ≤ gb211)); have n3_ := Aside0.mk ((z94_2 : w.heap.size ≤ gb211)); clear HB; have HB := n0_; have BK211 := n1_; have GW211 := n2_; have GE211 := n3_; clear n0_ n1_ n2_ n3_; clear hb hbox hg; have hcz91_0 : w90.cell? ⟨gb211, 0, none⟩ = some (.int .i64 a0_0) := (bC_ BK211.out 0).trans rfl; have hcz91_1 : w90.cell? ⟨gb211, 1, none⟩ = some (.int .i64 a0_1) := (bC_ BK211.out 1).trans rfl; have hcz91_2 : w90.cell? ⟨gb211, 2, none⟩ = some (.int .i64 a0_2) := (bC_ BK211.out 2).trans rfl; have hcz91_3 : w90.cell? ⟨gb211, 3, none⟩ = some (.int .i64 a0_3) := (bC_ BK211.out 3).trans rfl; have hcz91_4 : w90.cell? ⟨gb211, 4, none⟩ = some (.int .i64 a0_4) := (bC_ BK211.out 4).trans rfl; have hcz91_5 : w90.cell? ⟨gb211, 5, none⟩ = some (.int .i64 a0_5) := (bC_ BK211.out 5).trans rfl; have hfz91_0 := bF_ BK211.out 0; have hfz91_1 := bF_ BK211.out 1; have hfz91_2 := bF_ BK211.out 2; have hfz91_3 := bF_ BK211.out 3; have hfz91_4 := bF_ BK211.out 4; have hfz91_5 := bF_ BK211.out 5) | ((with_reducible refine gate_callee (f := 110) rfl ?_); refine goesL_ (some 40) rfl rfl Try.func110 (by kernel_rfl) rfl #[.int .i64 a0_1, .int .i64 3] rfl z94_1 ?_; (with_reducible refine (spec_HasKind.calls a0_1 3 true _ A72.out).mono ?_); rintro e w' ⟨rfl, ⟨nd, rfl⟩⟩; refine ⟨_, rfl, ?_⟩) | (go_at_call 68; (with_reducible refine (spec_l1In.calls a0_2 0 3 false _ A74.out).mono ?_); rintro e w' ⟨rfl, ⟨nd, rfl⟩⟩))
              go_ret
              exact ⟨by first | rfl | (simp [errW_none, errW_some] <;> rfl) | (simp [*, errW_none, errW_some] <;> rfl), by repeat (first | (with_reducible first | exact HB.out | apply bA_ | apply bN_ | apply bD_ | refine bS_ ?_ GE211.out) | exact HB.out)⟩
          · replace c73 := Bool.eq_false_iff.mpr c73
            subst c73
            have H1 : (some false) = some r := by rw [if_neg (show ¬ (false = true) by decide)] at H; exact H
            clear H
            have H := H1
            clear H1
            obtain rfl := Option.some.inj H
            go_enter Try.func94, Try.ntmps94
            go_wp2_with (first | ((with_reducible refine gate_dst (N := 1) rfl ?_); refine box_event ?hg (N := 1) ?hd (cs := #[.int .i64 a0_0, .int .i64 a0_1, .int .i64 a0_2, .int .i64 a0_3, .int .i64 a0_4, .int .i64 a0_5]) (t := 75) ?hr ?_; (case hd => rfl); (case hg => rfl); (case hr => first | (go_simp; done) | (go_simp; rfl)); intro gb211 hg w92 hbox hb; have n0_ := Aside0.mk (below_step z94_0 hb); have n1_ := Aside0.mk (hbox); have n2_ := Aside0.mk ((z94_2 : w.heap.size ≤ gb211)); have n3_ := Aside0.mk ((z94_2 : w.heap.size ≤ gb211)); clear HB; have HB := n0_; have BK211 := n1_; have GW211 := n2_; have GE211 := n3_; clear n0_ n1_ n2_ n3_; clear hb hbox hg; have hcz93_0 : w92.cell? ⟨gb211, 0, none⟩ = some (.int .i64 a0_0) := (bC_ BK211.out 0).trans rfl; have hcz93_1 : w92.cell? ⟨gb211, 1, none⟩ = some (.int .i64 a0_1) := (bC_ BK211.out 1).trans rfl; have hcz93_2 : w92.cell? ⟨gb211, 2, none⟩ = some (.int .i64 a0_2) := (bC_ BK211.out 2).trans rfl; have hcz93_3 : w92.cell? ⟨gb211, 3, none⟩ = some (.int .i64 a0_3) := (bC_ BK211.out 3).trans rfl; have hcz93_4 : w92.cell? ⟨gb211, 4, none⟩ = some (.int .i64 a0_4) := (bC_ BK211.out 4).trans rfl; have hcz93_5 : w92.cell? ⟨gb211, 5, none⟩ = some (.int .i64 a0_5) := (bC_ BK211.out 5).trans rfl; have hfz93_0 := bF_ BK211.out 0; have hfz93_1 := bF_ BK211.out 1; have hfz93_2 := bF_ BK211.out 2; have hfz93_3 := bF_ BK211.out 3; have hfz93_4 := bF_ BK211.out 4; have hfz93_5 := bF_ BK211.out 5) | ((with_reducible refine gate_callee (f := 110) rfl ?_); refine goesL_ (some 40) rfl rfl Try.func110 (by kernel_rfl) rfl #[.int .i64 a0_1, .int .i64 3] rfl z94_1 ?_; (with_reducible refine (spec_HasKind.calls a0_1 3 false _ A72.out).mono ?_); rintro e w' ⟨rfl, ⟨nd, rfl⟩⟩; refine ⟨_, rfl, ?_⟩))
            go_ret
            exact ⟨by first | rfl | (simp [errW_none, errW_some] <;> rfl) | (simp [*, errW_none, errW_some] <;> rfl), by repeat (first | (with_reducible first | exact HB.out | apply bA_ | apply bN_ | apply bD_ | refine bS_ ?_ GE211.out) | exact HB.out)⟩
        · rw [if_neg c71] at H
          have c71b0 : (a0_0 == 4) = false := beq_eq_false_iff_ne.mpr c71
          have c71b1 : (a0_0 != 4) = true := bne_iff_ne.mpr c71
          obtain rfl := Option.some.inj H
          go_enter Try.func94, Try.ntmps94
          go_wp2_with (first | ((with_reducible refine gate_dst (N := 1) rfl ?_); refine box_event ?hg (N := 1) ?hd (cs := #[.int .i64 a0_0, .int .i64 a0_1, .int .i64 a0_2, .int .i64 a0_3, .int .i64 a0_4, .int .i64 a0_5]) (t := 75) ?hr ?_; (case hd => rfl); (case hg => rfl); (case hr => first | (go_simp; done) | (go_simp; rfl)); intro gb211 hg w94 hbox hb; have n0_ := Aside0.mk (below_step z94_0 hb); have n1_ := Aside0.mk (hbox); have n2_ := Aside0.mk ((z94_2 : w.heap.size ≤ gb211)); have n3_ := Aside0.mk ((z94_2 : w.heap.size ≤ gb211)); clear HB; have HB := n0_; have BK211 := n1_; have GW211 := n2_; have GE211 := n3_; clear n0_ n1_ n2_ n3_; clear hb hbox hg; have hcz95_0 : w94.cell? ⟨gb211, 0, none⟩ = some (.int .i64 a0_0) := (bC_ BK211.out 0).trans rfl; have hcz95_1 : w94.cell? ⟨gb211, 1, none⟩ = some (.int .i64 a0_1) := (bC_ BK211.out 1).trans rfl; have hcz95_2 : w94.cell? ⟨gb211, 2, none⟩ = some (.int .i64 a0_2) := (bC_ BK211.out 2).trans rfl; have hcz95_3 : w94.cell? ⟨gb211, 3, none⟩ = some (.int .i64 a0_3) := (bC_ BK211.out 3).trans rfl; have hcz95_4 : w94.cell? ⟨gb211, 4, none⟩ = some (.int .i64 a0_4) := (bC_ BK211.out 4).trans rfl; have hcz95_5 : w94.cell? ⟨gb211, 5, none⟩ = some (.int .i64 a0_5) := (bC_ BK211.out 5).trans rfl; have hfz95_0 := bF_ BK211.out 0; have hfz95_1 := bF_ BK211.out 1; have hfz95_2 := bF_ BK211.out 2; have hfz95_3 := bF_ BK211.out 3; have hfz95_4 := bF_ BK211.out 4; have hfz95_5 := bF_ BK211.out 5))
          go_ret
          exact ⟨by first | rfl | (simp [errW_none, errW_some] <;> rfl) | (simp [*, errW_none, errW_some] <;> rfl), by repeat (first | (with_reducible first | exact HB.out | apply bA_ | apply bN_ | apply bD_ | refine bS_ ?_ GE211.out) | exact HB.out)⟩

/-! ### spec_FactBefore: function 139 -/
def spec_FactBefore.f (a0_0 : Int) (a0_1 : Int) (a0_2 : Int) (a0_3 : Int) (a0_4 : Int) (a0_5 : Int) (a1_0 : Int) (a1_1 : Int) (a1_2 : Int) (a1_3 : Int) (a1_4 : Int) (a1_5 : Int) : Option (Bool) := if a0_0 = a1_0 then (if a0_1 = a1_1 then (if a0_2 = a1_2 then (some (decide (a0_3 < a1_3))) else (some (decide (a0_2 < a1_2)))) else (some (decide (a0_1 < a1_1)))) else (some (decide (a0_0 < a1_0)))
theorem pB139_ {P Q : Prop} (h : P) (g : P → Q := by intro h_; (with_reducible repeat (first | refine blk_drewN ?_ _ | refine blk_drew ?_ | refine blk_alloc ?_ _)); exact h_) : Q := g h
theorem z139_0 {Q : Prop} (g : Q := by repeat (first | (with_reducible first | exact HB.out | apply bA_ | apply bN_ | apply bD_ | refine bS_ ?_ GE232.out) | exact HB.out)) : Q := g
theorem z139_1 {Q : Prop} (g : Q := by repeat (first | (with_reducible first | exact HB.out | apply bA_ | apply bN_ | apply bD_) | exact HB.out)) : Q := g
theorem z139_2 {Q : Prop} (g : Q := by rw [hg]; exact Nat.ne_of_lt (blk_lt (g := gb232) (o := .cells #[.int .i64 a0_0, .int .i64 a0_1, .int .i64 a0_2, .int .i64 a0_3, .int .i64 a0_4, .int .i64 a0_5] 75 (0, 0)) (pB139_ BK232.out))) : Q := g
theorem z139_3 {Q : Prop} (g : Q := by rw [hg]; exact Nat.ne_of_gt (blk_lt (g := gb232) (o := .cells #[.int .i64 a0_0, .int .i64 a0_1, .int .i64 a0_2, .int .i64 a0_3, .int .i64 a0_4, .int .i64 a0_5] 75 (0, 0)) (pB139_ BK232.out))) : Q := g
theorem z139_4 {Q : Prop} (g : Q := by rw [hg]; exact (below_size z139_1)) : Q := g
theorem z139_5 {Q : Prop} (g : Q := by rw [hg]; exact (below_size z139_0)) : Q := g
set_option maxHeartbeats 8000000 in
set_option maxRecDepth 100000 in
theorem spec_FactBefore.calls (a0_0 : Int) (a0_1 : Int) (a0_2 : Int) (a0_3 : Int) (a0_4 : Int) (a0_5 : Int) (a1_0 : Int) (a1_1 : Int) (a1_2 : Int) (a1_3 : Int) (a1_4 : Int) (a1_5 : Int) (r : Bool) (w : World) (h : spec_FactBefore.f a0_0 a0_1 a0_2 a0_3 a0_4 a0_5 a1_0 a1_1 a1_2 a1_3 a1_4 a1_5 = some r) :
    Calls Try.prog 139 #[.agg #[.int .i64 a0_0, .int .i64 a0_1, .int .i64 a0_2, .int .i64 a0_3, .int .i64 a0_4, .int .i64 a0_5], .agg #[.int .i64 a1_0, .int .i64 a1_1, .int .i64 a1_2, .int .i64 a1_3, .int .i64 a1_4, .int .i64 a1_5]] w fun e w' => e = .returned (.bool r) ∧ Below w.heap.size w w' := by
  have hu75 := Try.underlying75
  have HB := Aside0.mk (Below.refl w.heap.size w)
  have H : (if a0_0 = a1_0 then (if a0_1 = a1_1 then (if a0_2 = a1_2 then (some (decide (a0_3 < a1_3))) else (some (decide (a0_2 < a1_2)))) else (some (decide (a0_1 < a1_1)))) else (some (decide (a0_0 < a1_0)))) = some r := h
  clear h
  by_cases c3 : a0_0 = a1_0
  · rw [if_pos c3] at H
    have c3b0 : (a0_0 == a1_0) = true := beq_iff_eq.mpr c3
    have c3b1 : (a0_0 != a1_0) = false := bne_eq_false_iff_eq.mpr c3
    clear c3
    by_cases c4 : a0_1 = a1_1
    · rw [if_pos c4] at H
      have c4b0 : (a0_1 == a1_1) = true := beq_iff_eq.mpr c4
      have c4b1 : (a0_1 != a1_1) = false := bne_eq_false_iff_eq.mpr c4
      clear c4
      by_cases c5 : a0_2 = a1_2
      · rw [if_pos c5] at H
        have c5b0 : (a0_2 == a1_2) = true := beq_iff_eq.mpr c5
        have c5b1 : (a0_2 != a1_2) = false := bne_eq_false_iff_eq.mpr c5
        clear c5
        obtain rfl := Option.some.inj H
        go_enter Try.func139, Try.ntmps139
        go_wp2_with (first | ((with_reducible refine gate_dst (N := 2) rfl ?_); refine box_event ?hg (N := 2) ?hd (cs := #[.int .i64 a0_0, .int .i64 a0_1, .int .i64 a0_2, .int .i64 a0_3, .int .i64 a0_4, .int .i64 a0_5]) (t := 75) ?hr ?_; (case hd => rfl); (case hg => rfl); (case hr => first | (go_simp; done) | (go_simp; rfl)); intro gb232 hg w6 hbox hb; have n0_ := Aside0.mk (below_step z139_1 hb); have n1_ := Aside0.mk (hbox); have n2_ := Aside0.mk ((z139_4 : w.heap.size ≤ gb232)); have n3_ := Aside0.mk ((z139_4 : w.heap.size ≤ gb232)); clear HB; have HB := n0_; have BK232 := n1_; have GW232 := n2_; have GE232 := n3_; clear n0_ n1_ n2_ n3_; clear hb hbox hg) | ((with_reducible refine gate_dst (N := 3) rfl ?_); refine box_event ?hg (N := 3) ?hd (cs := #[.int .i64 a1_0, .int .i64 a1_1, .int .i64 a1_2, .int .i64 a1_3, .int .i64 a1_4, .int .i64 a1_5]) (t := 75) ?hr ?_; (case hd => rfl); (case hg => rfl); (case hr => first | (go_simp; done) | (go_simp; rfl)); intro gb233 hg w7 hbox hb; have n0_ := Aside0.mk (blk_below (g := gb232) (o := .cells #[.int .i64 a0_0, .int .i64 a0_1, .int .i64 a0_2, .int .i64 a0_3, .int .i64 a0_4, .int .i64 a0_5] 75 (0, 0)) (pB139_ BK232.out) hb); have n1_ := Aside0.mk (below_step z139_0 hb); have n2_ := Aside0.mk (hbox); have n3_ := Aside0.mk ((z139_5 : w.heap.size ≤ gb233)); have n4_ := Aside0.mk ((z139_5 : w.heap.size ≤ gb233)); have n5_ := Aside0.mk ((z139_2 : gb232 ≠ gb233)); have n6_ := Aside0.mk ((z139_3 : gb233 ≠ gb232)); clear BK232; clear HB; have BK232 := n0_; have HB := n1_; have BK233 := n2_; have GW233 := n3_; have GE233 := n4_; have NB232_233 := n5_; have NB233_232 := n6_; clear n0_ n1_ n2_ n3_ n4_ n5_ n6_; clear hb hbox hg; have hnb8 := NB232_233.out; have hnc8 := NB233_232.out; have hcz9_0 : w7.cell? ⟨gb232, 0, none⟩ = some (.int .i64 a0_0) := (bC_ BK232.out 0).trans rfl; have hcz9_1 : w7.cell? ⟨gb232, 1, none⟩ = some (.int .i64 a0_1) := (bC_ BK232.out 1).trans rfl; have hcz9_2 : w7.cell? ⟨gb232, 2, none⟩ = some (.int .i64 a0_2) := (bC_ BK232.out 2).trans rfl; have hcz9_3 : w7.cell? ⟨gb232, 3, none⟩ = some (.int .i64 a0_3) := (bC_ BK232.out 3).trans rfl; have hcz9_4 : w7.cell? ⟨gb232, 4, none⟩ = some (.int .i64 a0_4) := (bC_ BK232.out 4).trans rfl; have hcz9_5 : w7.cell? ⟨gb232, 5, none⟩ = some (.int .i64 a0_5) := (bC_ BK232.out 5).trans rfl; have hfz9_0 := bF_ BK232.out 0; have hfz9_1 := bF_ BK232.out 1; have hfz9_2 := bF_ BK232.out 2; have hfz9_3 := bF_ BK232.out 3; have hfz9_4 := bF_ BK232.out 4; have hfz9_5 := bF_ BK232.out 5; have hcz10_0 : w7.cell? ⟨gb233, 0, none⟩ = some (.int .i64 a1_0) := (bC_ BK233.out 0).trans rfl; have hcz10_1 : w7.cell? ⟨gb233, 1, none⟩ = some (.int .i64 a1_1) := (bC_ BK233.out 1).trans rfl; have hcz10_2 : w7.cell? ⟨gb233, 2, none⟩ = some (.int .i64 a1_2) := (bC_ BK233.out 2).trans rfl; have hcz10_3 : w7.cell? ⟨gb233, 3, none⟩ = some (.int .i64 a1_3) := (bC_ BK233.out 3).trans rfl; have hcz10_4 : w7.cell? ⟨gb233, 4, none⟩ = some (.int .i64 a1_4) := (bC_ BK233.out 4).trans rfl; have hcz10_5 : w7.cell? ⟨gb233, 5, none⟩ = some (.int .i64 a1_5) := (bC_ BK233.out 5).trans rfl; have hfz10_0 := bF_ BK233.out 0; have hfz10_1 := bF_ BK233.out 1; have hfz10_2 := bF_ BK233.out 2; have hfz10_3 := bF_ BK233.out 3; have hfz10_4 := bF_ BK233.out 4; have hfz10_5 := bF_ BK233.out 5))
        go_ret
        exact ⟨by first | rfl | (simp [errW_none, errW_some] <;> rfl) | (simp [*, errW_none, errW_some] <;> rfl), by repeat (first | (with_reducible first | exact HB.out | apply bA_ | apply bN_ | apply bD_ | refine bS_ ?_ GE232.out | refine bS_ ?_ GE233.out) | exact HB.out)⟩
      · rw [if_neg c5] at H
        have c5b0 : (a0_2 == a1_2) = false := beq_eq_false_iff_ne.mpr c5
        have c5b1 : (a0_2 != a1_2) = true := bne_iff_ne.mpr c5
        obtain rfl := Option.some.inj H
        go_enter Try.func139, Try.ntmps139
        go_wp2_with (first | ((with_reducible refine gate_dst (N := 2) rfl ?_); refine box_event ?hg (N := 2) ?hd (cs := #[.int .i64 a0_0, .int .i64 a0_1, .int .i64 a0_2, .int .i64 a0_3, .int .i64 a0_4, .int .i64 a0_5]) (t := 75) ?hr ?_; (case hd => rfl); (case hg => rfl); (case hr => first | (go_simp; done) | (go_simp; rfl)); intro gb232 hg w11 hbox hb; have n0_ := Aside0.mk (below_step z139_1 hb); have n1_ := Aside0.mk (hbox); have n2_ := Aside0.mk ((z139_4 : w.heap.size ≤ gb232)); have n3_ := Aside0.mk ((z139_4 : w.heap.size ≤ gb232)); clear HB; have HB := n0_; have BK232 := n1_; have GW232 := n2_; have GE232 := n3_; clear n0_ n1_ n2_ n3_; clear hb hbox hg) | ((with_reducible refine gate_dst (N := 3) rfl ?_); refine box_event ?hg (N := 3) ?hd (cs := #[.int .i64 a1_0, .int .i64 a1_1, .int .i64 a1_2, .int .i64 a1_3, .int .i64 a1_4, .int .i64 a1_5]) (t := 75) ?hr ?_; (case hd => rfl); (case hg => rfl); (case hr => first | (go_simp; done) | (go_simp; rfl)); intro gb233 hg w12 hbox hb; have n0_ := Aside0.mk (blk_below (g := gb232) (o := .cells #[.int .i64 a0_0, .int .i64 a0_1, .int .i64 a0_2, .int .i64 a0_3, .int .i64 a0_4, .int .i64 a0_5] 75 (0, 0)) (pB139_ BK232.out) hb); have n1_ := Aside0.mk (below_step z139_0 hb); have n2_ := Aside0.mk (hbox); have n3_ := Aside0.mk ((z139_5 : w.heap.size ≤ gb233)); have n4_ := Aside0.mk ((z139_5 : w.heap.size ≤ gb233)); have n5_ := Aside0.mk ((z139_2 : gb232 ≠ gb233)); have n6_ := Aside0.mk ((z139_3 : gb233 ≠ gb232)); clear BK232; clear HB; have BK232 := n0_; have HB := n1_; have BK233 := n2_; have GW233 := n3_; have GE233 := n4_; have NB232_233 := n5_; have NB233_232 := n6_; clear n0_ n1_ n2_ n3_ n4_ n5_ n6_; clear hb hbox hg; have hnb13 := NB232_233.out; have hnc13 := NB233_232.out; have hcz14_0 : w12.cell? ⟨gb232, 0, none⟩ = some (.int .i64 a0_0) := (bC_ BK232.out 0).trans rfl; have hcz14_1 : w12.cell? ⟨gb232, 1, none⟩ = some (.int .i64 a0_1) := (bC_ BK232.out 1).trans rfl; have hcz14_2 : w12.cell? ⟨gb232, 2, none⟩ = some (.int .i64 a0_2) := (bC_ BK232.out 2).trans rfl; have hcz14_3 : w12.cell? ⟨gb232, 3, none⟩ = some (.int .i64 a0_3) := (bC_ BK232.out 3).trans rfl; have hcz14_4 : w12.cell? ⟨gb232, 4, none⟩ = some (.int .i64 a0_4) := (bC_ BK232.out 4).trans rfl; have hcz14_5 : w12.cell? ⟨gb232, 5, none⟩ = some (.int .i64 a0_5) := (bC_ BK232.out 5).trans rfl; have hfz14_0 := bF_ BK232.out 0; have hfz14_1 := bF_ BK232.out 1; have hfz14_2 := bF_ BK232.out 2; have hfz14_3 := bF_ BK232.out 3; have hfz14_4 := bF_ BK232.out 4; have hfz14_5 := bF_ BK232.out 5; have hcz15_0 : w12.cell? ⟨gb233, 0, none⟩ = some (.int .i64 a1_0) := (bC_ BK233.out 0).trans rfl; have hcz15_1 : w12.cell? ⟨gb233, 1, none⟩ = some (.int .i64 a1_1) := (bC_ BK233.out 1).trans rfl; have hcz15_2 : w12.cell? ⟨gb233, 2, none⟩ = some (.int .i64 a1_2) := (bC_ BK233.out 2).trans rfl; have hcz15_3 : w12.cell? ⟨gb233, 3, none⟩ = some (.int .i64 a1_3) := (bC_ BK233.out 3).trans rfl; have hcz15_4 : w12.cell? ⟨gb233, 4, none⟩ = some (.int .i64 a1_4) := (bC_ BK233.out 4).trans rfl; have hcz15_5 : w12.cell? ⟨gb233, 5, none⟩ = some (.int .i64 a1_5) := (bC_ BK233.out 5).trans rfl; have hfz15_0 := bF_ BK233.out 0; have hfz15_1 := bF_ BK233.out 1; have hfz15_2 := bF_ BK233.out 2; have hfz15_3 := bF_ BK233.out 3; have hfz15_4 := bF_ BK233.out 4; have hfz15_5 := bF_ BK233.out 5))
        go_ret
        exact ⟨by first | rfl | (simp [errW_none, errW_some] <;> rfl) | (simp [*, errW_none, errW_some] <;> rfl), by repeat (first | (with_reducible first | exact HB.out | apply bA_ | apply bN_ | apply bD_ | refine bS_ ?_ GE232.out | refine bS_ ?_ GE233.out) | exact HB.out)⟩
    · rw [if_neg c4] at H
      have c4b0 : (a0_1 == a1_1) = false := beq_eq_false_iff_ne.mpr c4
      have c4b1 : (a0_1 != a1_1) = true := bne_iff_ne.mpr c4
      obtain rfl := Option.some.inj H
      go_enter Try.func139, Try.ntmps139
      go_wp2_with (first | ((with_reducible refine gate_dst (N := 2) rfl ?_); refine box_event ?hg (N := 2) ?hd (cs := #[.int .i64 a0_0, .int .i64 a0_1, .int .i64 a0_2, .int .i64 a0_3, .int .i64 a0_4, .int .i64 a0_5]) (t := 75) ?hr ?_; (case hd => rfl); (case hg => rfl); (case hr => first | (go_simp; done) | (go_simp; rfl)); intro gb232 hg w16 hbox hb; have n0_ := Aside0.mk (below_step z139_1 hb); have n1_ := Aside0.mk (hbox); have n2_ := Aside0.mk ((z139_4 : w.heap.size ≤ gb232)); have n3_ := Aside0.mk ((z139_4 : w.heap.size ≤ gb232)); clear HB; have HB := n0_; have BK232 := n1_; have GW232 := n2_; have GE232 := n3_; clear n0_ n1_ n2_ n3_; clear hb hbox hg) | ((with_reducible refine gate_dst (N := 3) rfl ?_); refine box_event ?hg (N := 3) ?hd (cs := #[.int .i64 a1_0, .int .i64 a1_1, .int .i64 a1_2, .int .i64 a1_3, .int .i64 a1_4, .int .i64 a1_5]) (t := 75) ?hr ?_; (case hd => rfl); (case hg => rfl); (case hr => first | (go_simp; done) | (go_simp; rfl)); intro gb233 hg w17 hbox hb; have n0_ := Aside0.mk (blk_below (g := gb232) (o := .cells #[.int .i64 a0_0, .int .i64 a0_1, .int .i64 a0_2, .int .i64 a0_3, .int .i64 a0_4, .int .i64 a0_5] 75 (0, 0)) (pB139_ BK232.out) hb); have n1_ := Aside0.mk (below_step z139_0 hb); have n2_ := Aside0.mk (hbox); have n3_ := Aside0.mk ((z139_5 : w.heap.size ≤ gb233)); have n4_ := Aside0.mk ((z139_5 : w.heap.size ≤ gb233)); have n5_ := Aside0.mk ((z139_2 : gb232 ≠ gb233)); have n6_ := Aside0.mk ((z139_3 : gb233 ≠ gb232)); clear BK232; clear HB; have BK232 := n0_; have HB := n1_; have BK233 := n2_; have GW233 := n3_; have GE233 := n4_; have NB232_233 := n5_; have NB233_232 := n6_; clear n0_ n1_ n2_ n3_ n4_ n5_ n6_; clear hb hbox hg; have hnb18 := NB232_233.out; have hnc18 := NB233_232.out; have hcz19_0 : w17.cell? ⟨gb232, 0, none⟩ = some (.int .i64 a0_0) := (bC_ BK232.out 0).trans rfl; have hcz19_1 : w17.cell? ⟨gb232, 1, none⟩ = some (.int .i64 a0_1) := (bC_ BK232.out 1).trans rfl; have hcz19_2 : w17.cell? ⟨gb232, 2, none⟩ = some (.int .i64 a0_2) := (bC_ BK232.out 2).trans rfl; have hcz19_3 : w17.cell? ⟨gb232, 3, none⟩ = some (.int .i64 a0_3) := (bC_ BK232.out 3).trans rfl; have hcz19_4 : w17.cell? ⟨gb232, 4, none⟩ = some (.int .i64 a0_4) := (bC_ BK232.out 4).trans rfl; have hcz19_5 : w17.cell? ⟨gb232, 5, none⟩ = some (.int .i64 a0_5) := (bC_ BK232.out 5).trans rfl; have hfz19_0 := bF_ BK232.out 0; have hfz19_1 := bF_ BK232.out 1; have hfz19_2 := bF_ BK232.out 2; have hfz19_3 := bF_ BK232.out 3; have hfz19_4 := bF_ BK232.out 4; have hfz19_5 := bF_ BK232.out 5; have hcz20_0 : w17.cell? ⟨gb233, 0, none⟩ = some (.int .i64 a1_0) := (bC_ BK233.out 0).trans rfl; have hcz20_1 : w17.cell? ⟨gb233, 1, none⟩ = some (.int .i64 a1_1) := (bC_ BK233.out 1).trans rfl; have hcz20_2 : w17.cell? ⟨gb233, 2, none⟩ = some (.int .i64 a1_2) := (bC_ BK233.out 2).trans rfl; have hcz20_3 : w17.cell? ⟨gb233, 3, none⟩ = some (.int .i64 a1_3) := (bC_ BK233.out 3).trans rfl; have hcz20_4 : w17.cell? ⟨gb233, 4, none⟩ = some (.int .i64 a1_4) := (bC_ BK233.out 4).trans rfl; have hcz20_5 : w17.cell? ⟨gb233, 5, none⟩ = some (.int .i64 a1_5) := (bC_ BK233.out 5).trans rfl; have hfz20_0 := bF_ BK233.out 0; have hfz20_1 := bF_ BK233.out 1; have hfz20_2 := bF_ BK233.out 2; have hfz20_3 := bF_ BK233.out 3; have hfz20_4 := bF_ BK233.out 4; have hfz20_5 := bF_ BK233.out 5))
      go_ret
      exact ⟨by first | rfl | (simp [errW_none, errW_some] <;> rfl) | (simp [*, errW_none, errW_some] <;> rfl), by repeat (first | (with_reducible first | exact HB.out | apply bA_ | apply bN_ | apply bD_ | refine bS_ ?_ GE232.out | refine bS_ ?_ GE233.out) | exact HB.out)⟩
  · rw [if_neg c3] at H
    have c3b0 : (a0_0 == a1_0) = false := beq_eq_false_iff_ne.mpr c3
    have c3b1 : (a0_0 != a1_0) = true := bne_iff_ne.mpr c3
    obtain rfl := Option.some.inj H
    go_enter Try.func139, Try.ntmps139
    go_wp2_with (first | ((with_reducible refine gate_dst (N := 2) rfl ?_); refine box_event ?hg (N := 2) ?hd (cs := #[.int .i64 a0_0, .int .i64 a0_1, .int .i64 a0_2, .int .i64 a0_3, .int .i64 a0_4, .int .i64 a0_5]) (t := 75) ?hr ?_; (case hd => rfl); (case hg => rfl); (case hr => first | (go_simp; done) | (go_simp; rfl)); intro gb232 hg w21 hbox hb; have n0_ := Aside0.mk (below_step z139_1 hb); have n1_ := Aside0.mk (hbox); have n2_ := Aside0.mk ((z139_4 : w.heap.size ≤ gb232)); have n3_ := Aside0.mk ((z139_4 : w.heap.size ≤ gb232)); clear HB; have HB := n0_; have BK232 := n1_; have GW232 := n2_; have GE232 := n3_; clear n0_ n1_ n2_ n3_; clear hb hbox hg) | ((with_reducible refine gate_dst (N := 3) rfl ?_); refine box_event ?hg (N := 3) ?hd (cs := #[.int .i64 a1_0, .int .i64 a1_1, .int .i64 a1_2, .int .i64 a1_3, .int .i64 a1_4, .int .i64 a1_5]) (t := 75) ?hr ?_; (case hd => rfl); (case hg => rfl); (case hr => first | (go_simp; done) | (go_simp; rfl)); intro gb233 hg w22 hbox hb; have n0_ := Aside0.mk (blk_below (g := gb232) (o := .cells #[.int .i64 a0_0, .int .i64 a0_1, .int .i64 a0_2, .int .i64 a0_3, .int .i64 a0_4, .int .i64 a0_5] 75 (0, 0)) (pB139_ BK232.out) hb); have n1_ := Aside0.mk (below_step z139_0 hb); have n2_ := Aside0.mk (hbox); have n3_ := Aside0.mk ((z139_5 : w.heap.size ≤ gb233)); have n4_ := Aside0.mk ((z139_5 : w.heap.size ≤ gb233)); have n5_ := Aside0.mk ((z139_2 : gb232 ≠ gb233)); have n6_ := Aside0.mk ((z139_3 : gb233 ≠ gb232)); clear BK232; clear HB; have BK232 := n0_; have HB := n1_; have BK233 := n2_; have GW233 := n3_; have GE233 := n4_; have NB232_233 := n5_; have NB233_232 := n6_; clear n0_ n1_ n2_ n3_ n4_ n5_ n6_; clear hb hbox hg; have hnb23 := NB232_233.out; have hnc23 := NB233_232.out; have hcz24_0 : w22.cell? ⟨gb232, 0, none⟩ = some (.int .i64 a0_0) := (bC_ BK232.out 0).trans rfl; have hcz24_1 : w22.cell? ⟨gb232, 1, none⟩ = some (.int .i64 a0_1) := (bC_ BK232.out 1).trans rfl; have hcz24_2 : w22.cell? ⟨gb232, 2, none⟩ = some (.int .i64 a0_2) := (bC_ BK232.out 2).trans rfl; have hcz24_3 : w22.cell? ⟨gb232, 3, none⟩ = some (.int .i64 a0_3) := (bC_ BK232.out 3).trans rfl; have hcz24_4 : w22.cell? ⟨gb232, 4, none⟩ = some (.int .i64 a0_4) := (bC_ BK232.out 4).trans rfl; have hcz24_5 : w22.cell? ⟨gb232, 5, none⟩ = some (.int .i64 a0_5) := (bC_ BK232.out 5).trans rfl; have hfz24_0 := bF_ BK232.out 0; have hfz24_1 := bF_ BK232.out 1; have hfz24_2 := bF_ BK232.out 2; have hfz24_3 := bF_ BK232.out 3; have hfz24_4 := bF_ BK232.out 4; have hfz24_5 := bF_ BK232.out 5; have hcz25_0 : w22.cell? ⟨gb233, 0, none⟩ = some (.int .i64 a1_0) := (bC_ BK233.out 0).trans rfl; have hcz25_1 : w22.cell? ⟨gb233, 1, none⟩ = some (.int .i64 a1_1) := (bC_ BK233.out 1).trans rfl; have hcz25_2 : w22.cell? ⟨gb233, 2, none⟩ = some (.int .i64 a1_2) := (bC_ BK233.out 2).trans rfl; have hcz25_3 : w22.cell? ⟨gb233, 3, none⟩ = some (.int .i64 a1_3) := (bC_ BK233.out 3).trans rfl; have hcz25_4 : w22.cell? ⟨gb233, 4, none⟩ = some (.int .i64 a1_4) := (bC_ BK233.out 4).trans rfl; have hcz25_5 : w22.cell? ⟨gb233, 5, none⟩ = some (.int .i64 a1_5) := (bC_ BK233.out 5).trans rfl; have hfz25_0 := bF_ BK233.out 0; have hfz25_1 := bF_ BK233.out 1; have hfz25_2 := bF_ BK233.out 2; have hfz25_3 := bF_ BK233.out 3; have hfz25_4 := bF_ BK233.out 4; have hfz25_5 := bF_ BK233.out 5))
    go_ret
    exact ⟨by first | rfl | (simp [errW_none, errW_some] <;> rfl) | (simp [*, errW_none, errW_some] <;> rfl), by repeat (first | (with_reducible first | exact HB.out | apply bA_ | apply bN_ | apply bD_ | refine bS_ ?_ GE232.out | refine bS_ ?_ GE233.out) | exact HB.out)⟩

end Go.Proofs.Ytgmgoabohppkeaa.XFnRoles
