/- Written by this session's own program (wip/xprint, which runs over the kit's print): what the functions that the law reaches come to, each proved; and the law's row. Conditions: none. -/
import Derived.Test.YtgmgoabohppkeaaUFnRolesx0
import Derived.Test.YtgmgoabohppkeaaUFnRolesx1
import Derived.Test.YtgmgoabohppkeaaUFnRolesx2
import Derived.Test.YtgmgoabohppkeaaUFnRolesx3
import Derived.Test.YtgmgoabohppkeaaUFnRolesx9
namespace Go.Proofs.Ytgmgoabohppkeaa.XFnRoles
open Go.RowKit Go.Proofs.YtgmgoabohppkeaaW.PrintWords Go.Proofs.YtgmgoabohppkeaaW.PrintLast Go.Proofs.YtgmgoabohppkeaaW.PrintMore
attribute [local go_sem] max2_int min2_int max_two min_two max_three min_three max_four min_four   -- for this text's walks alone
set_option linter.unusedVariables false
set_option linter.unusedSimpArgs false

/-! ### spec_DrawHasRole: function 58 -/
def spec_DrawHasRole.f (k : Nat) (l0 : List Int) : Option ((List (S78)) × (List (S75)) × Int × Int × Int × Int) := (spec_DrawRolesOf.f k l0).bind fun bt373 => (some (bt373.1, bt373.2.1, bt373.2.2.1, (l0.length : Int) % 7, bt373.2.2.2.1, bt373.2.2.2.2))
theorem spec_DrawHasRole.mono : ∀ a0 k, LeO (spec_DrawHasRole.f k a0) (spec_DrawHasRole.f (k + 1) a0) := by
  intro a0 k
  unfold spec_DrawHasRole.f
  repeat' first
      | (with_reducible exact spec_DrawRolesOf.mono _ _)
      | (with_reducible exact LeO.refl _)
      | (with_reducible exact LeO.none _)
      | (with_reducible refine LeO.ite ?_ ?_)
      | (with_reducible refine LeO.bind ?_ (fun _ => ?_))
      | exact spec_DrawRolesOf.mono _ _
      | exact LeO.none _
      | refine LeO.ite ?_ ?_
      | refine LeO.bind ?_ (fun _ => ?_)
theorem z58_0 {Q : Prop} (g : Q := by repeat (first | (with_reducible first | exact HB.out | apply bA_ | apply bN_ | apply bD_) | exact HB.out)) : Q := g
set_option maxHeartbeats 8000000 in
set_option maxRecDepth 100000 in
theorem spec_DrawHasRole.calls (k : Nat) (A0 : Option Addr) (c0 : Nat) (l0 : List Int) (r1 : List (S78)) (r2 : List (S75)) (r3 : Int) (r4 : Int) (r5 : Int) (r6 : Int) (w : World) (hr0 : Kd.C (Kd.int .u8) w A0 l0.length l0) (hc0 : l0.length ≤ c0) (h : spec_DrawHasRole.f k l0 = some (r1, r2, r3, r4, r5, r6)) :
    Calls Try.prog 58 #[.slice A0 l0.length c0] w fun e w' => ∃ v0_ v1_ : Value, e = .returned (.tuple #[v0_, v1_, .int .i64 r3, .int .i64 r4, .int .i64 r5, .int .i64 r6]) ∧ Kd.R k78 78 w' w.heap.size (fun _ => True) v0_ r1 ∧ Kd.R k75 75 w' w.heap.size (fun _ => True) v1_ r2 ∧ Below w.heap.size w w' := by
  have HR0 := Aside0.mk hr0
  have HC0 := Aside0.mk hc0
  clear hr0 hc0
  have HB := Aside0.mk (Below.refl w.heap.size w)
  have H : ((spec_DrawRolesOf.f k l0).bind fun bt373 => (some (bt373.1, bt373.2.1, bt373.2.2.1, (l0.length : Int) % 7, bt373.2.2.2.1, bt373.2.2.2.2))) = some (r1, r2, r3, r4, r5, r6) := h
  clear h
  replace H := Option.bind_eq_some_iff.mp H
  obtain ⟨⟨t373, t374, t375, t376, t377⟩, A20, H⟩ := H
  replace H : (some (t373, t374, t375, (l0.length : Int) % 7, t376, t377)) = some (r1, r2, r3, r4, r5, r6) := H
  have A2 := Aside0.mk A20
  clear A20
  simp only [Option.some.injEq, Prod.mk.injEq] at H
  obtain ⟨rfl, rfl, rfl, rfl, rfl, rfl⟩ := H
  go_enter Try.func58, Try.ntmps58
  go_wp2_with (first | ((with_reducible refine gate_callee (f := 93) rfl ?_); refine goesL_ (some 15) rfl rfl Try.func93 (by kernel_rfl) rfl #[.slice A0 l0.length c0] rfl (by (try simp only [List.map_toArray, List.map_cons, List.map_nil]); first | done | rfl | (simp only [List.length_drop, List.length_take]; rfl)) ?_; (with_reducible refine (spec_DrawRolesOf.calls k _ _ l0 t373 t374 t375 t376 t377 _ ?side1 ?side2 A2.out).mono ?_); (case side1 => repeat (first | exact HR0.out | (with_reducible refine Kd.C_alloc ?_ _) | (with_reducible refine Kd.C_drewN ?_ _) | (with_reducible refine Kd.C_drew ?_))); (case side2 => exact HC0.out); rintro e w3 ⟨v378, v380, rfl, ho0, ho1, hb⟩; refine ⟨_, rfl, ?_⟩; have n0_ := Aside0.mk (Kd.R_lower ho0 (below_size z58_0)); have n1_ := Aside0.mk (Kd.R_lower ho1 (below_size z58_0)); have n2_ := Aside0.mk (below_step z58_0 hb); clear HB; have HO379 := n0_; have HO381 := n1_; have HB := n2_; clear n0_ n1_ n2_; (try clear hb); (try clear hb2); (try clear hk); (try clear hi); (try clear ho0); (try clear ho1)))
  refine bodyPost_ret (results_list (rs := [.tmp 2, .tmp 3, .tmp 4, .tmp 5, .tmp 6, .tmp 7]) rfl (by simp) (.tmp (.tmp (.tmp (.tmp (.tmp (.tmp .nil))))))) rfl ?_
  exact ⟨_, _, by first | rfl | (simp [errW_none, errW_some] <;> rfl) | (simp [*, errW_none, errW_some] <;> rfl), by (with_reducible repeat (first | apply Kd.R_alloc | apply Kd.R_drewN | apply Kd.R_drew)); exact HO379.out, by (with_reducible repeat (first | apply Kd.R_alloc | apply Kd.R_drewN | apply Kd.R_drew)); exact HO381.out, by repeat (first | (with_reducible first | exact HB.out | apply bA_ | apply bN_ | apply bD_) | exact HB.out)⟩

/-! ### laws_contains: function 59 -/
def laws_contains.l0 : Nat → List Int → Int → Int → Option (Bool)
  | 0, _, _, _ => none
  | k + 1, x0, x1, x5 => if x5 < (x0.length : Int) then (if 0 ≤ x5 then (if (rd x0 x5) = x1 then (some true) else (laws_contains.l0 k x0 x1 (wrap64 (x5 + 1)))) else (none)) else (some false)
def laws_contains.f (k : Nat) (l0 : List Int) (a1 : Int) : Option (Bool) := laws_contains.l0 k l0 a1 0
theorem laws_contains.mono_l : ∀ k, (∀ y0 y1 y2, LeO (laws_contains.l0 k y0 y1 y2) (laws_contains.l0 (k + 1) y0 y1 y2))
  | 0 => fun _ _ _ r h => by simp [laws_contains.l0] at h
  | k + 1 => by
    have ih0 := laws_contains.mono_l k
    · intro y0 y1 y2
      unfold laws_contains.l0
      repeat' first
      | (with_reducible exact ih0 _ _ _)
      | (with_reducible exact LeO.refl _)
      | (with_reducible exact LeO.none _)
      | (with_reducible refine LeO.ite ?_ ?_)
      | (with_reducible refine LeO.bind ?_ (fun _ => ?_))
      | exact ih0 _ _ _
      | exact LeO.none _
      | refine LeO.ite ?_ ?_
      | refine LeO.bind ?_ (fun _ => ?_)
theorem laws_contains.mono : ∀ a0 a1 k, LeO (laws_contains.f k a0 a1) (laws_contains.f (k + 1) a0 a1) := by
  intro a0 a1 k
  have ih0 := laws_contains.mono_l k
  unfold laws_contains.f
  repeat' first
      | (with_reducible exact ih0 _ _ _)
      | (with_reducible exact LeO.refl _)
      | (with_reducible exact LeO.none _)
      | (with_reducible refine LeO.ite ?_ ?_)
      | (with_reducible refine LeO.bind ?_ (fun _ => ?_))
      | exact ih0 _ _ _
      | exact LeO.none _
      | refine LeO.ite ?_ ?_
      | refine LeO.bind ?_ (fun _ => ?_)
set_option maxHeartbeats 8000000 in
set_option maxRecDepth 100000 in
theorem laws_contains.calls (k : Nat) (A0 : Option Addr) (c0 : Nat) (l0 : List Int) (a1 : Int) (r : Bool) (w : World) (hr0 : Kd.C (Kd.int .i64) w A0 l0.length l0) (hc0 : l0.length ≤ c0) (h : laws_contains.f k l0 a1 = some r) :
    Calls Try.prog 59 #[.slice A0 l0.length c0, .int .i64 a1] w fun e w' => e = .returned (.bool r) ∧ Drawn0 w w' := by
  have HR0 := Aside0.mk hr0
  have HC0 := Aside0.mk hc0
  clear hr0 hc0
  have H : (laws_contains.l0 k l0 a1 0) = some r := h
  clear h
  have H' := Aside0.mk H
  clear H
  go_enter Try.func59, Try.ntmps59
  go_wp2
  go_loopg [5] k (fun kq v5 w' => ∃ (x5_1 : Int), v5 = .int .i64 x5_1 ∧ Aside0 (laws_contains.l0 kq l0 a1 x5_1 = some r) ∧ Aside0 (kq ≤ k) ∧ Drawn0 w w')
  case atStart => exact ⟨(0), (by first | rfl | (simp; done) | (simp [*]; done)), H', ⟨Nat.le_refl _⟩, by repeat (first | exact Drawn0.refl _ | apply Drawn0.step)⟩
  case round =>
    clear H'
    try clear p2
    obtain ⟨x5_1, rfl, HA, HK1, ⟨m1, rfl⟩⟩ := hrel
    cases gk with
    | zero => exact absurd HA.out (by simp [laws_contains.l0])
    | succ k1 =>
      have H := HA.out
      clear HA
      simp only [laws_contains.l0] at H
      by_cases c3 : x5_1 < (l0.length : Int)
      · rw [if_pos c3] at H
        have c3b0 : decide (x5_1 < (l0.length : Int)) = true := decide_eq_true c3
        clear c3
        by_cases c4 : 0 ≤ x5_1
        · rw [if_pos c4] at H
          have c4b0 : decide (0 ≤ x5_1) = true := decide_eq_true c4
          clear c4
          by_cases c5 : (rd l0 x5_1) = a1
          · rw [if_pos c5] at H
            have c5b0 : ((rd l0 x5_1) == a1) = true := beq_iff_eq.mpr c5
            have c5b1 : ((rd l0 x5_1) != a1) = false := bne_eq_false_iff_eq.mpr c5
            clear c5
            obtain rfl := Option.some.inj H
            have p382 : 0 ≤ (x5_1 : Int) := of_decide_eq_true (by first | (with_reducible assumption) | assumption)
            have q382 : x5_1 < (l0.length : Int) := of_decide_eq_true (by first | (with_reducible assumption) | assumption)
            obtain ⟨ad382, e382, hx382_0⟩ := Kd.at_int HR0.out x5_1 p382 q382
            cases e382
            replace p382 := eq_true p382
            replace q382 := eq_true q382
            go_wp2
            go_ret
            exact ⟨by first | rfl | (simp; done) | (simp [*]; done), by repeat (first | exact Drawn0.refl _ | apply Drawn0.step)⟩
          · rw [if_neg c5] at H
            have c5b0 : ((rd l0 x5_1) == a1) = false := beq_eq_false_iff_ne.mpr c5
            have c5b1 : ((rd l0 x5_1) != a1) = true := bne_iff_ne.mpr c5
            have H' := Aside0.mk H
            clear H
            have p382 : 0 ≤ (x5_1 : Int) := of_decide_eq_true (by first | (with_reducible assumption) | assumption)
            have q382 : x5_1 < (l0.length : Int) := of_decide_eq_true (by first | (with_reducible assumption) | assumption)
            obtain ⟨ad382, e382, hx382_0⟩ := Kd.at_int HR0.out x5_1 p382 q382
            cases e382
            replace p382 := eq_true p382
            replace q382 := eq_true q382
            go_wp2
            go_roundg k1
            case measure => have := HK1.out; omega
            case rel => exact ⟨(wrap64 (x5_1 + 1)), (by first | rfl | (simp; done) | (simp [*]; done)), H', ⟨by have := HK1.out; omega⟩, by repeat (first | exact Drawn0.refl _ | apply Drawn0.step)⟩
        · rw [if_neg c4] at H
          exact absurd H (by simp)
      · rw [if_neg c3] at H
        have c3b0 : decide (x5_1 < (l0.length : Int)) = false := decide_eq_false c3
        clear c3
        obtain rfl := Option.some.inj H
        go_wp2
        go_ret
        exact ⟨by first | rfl | (simp; done) | (simp [*]; done), by repeat (first | exact Drawn0.refl _ | apply Drawn0.step)⟩

/-! ### laws_FnRoles: function 14 -/
mutual
def laws_FnRoles.l0 : Nat → List (S78) → Int → List Int → List Int → Int → Option (Bool)
  | 0, _, _, _, _, _ => none
  | k + 1, x3, x6, x9, x10, x11 => if x11 < (x10.length : Int) then ((laws_contains.f k x9 x6).bind fun t405 => (laws_FnRoles.j1 k x3 x6 x9 x10 x11 t405)) else (laws_FnRoles.j1 k x3 x6 x9 x10 x11 false)
def laws_FnRoles.j1 : Nat → List (S78) → Int → List Int → List Int → Int → Bool → Option (Bool)
  | 0, _, _, _, _, _, _ => none
  | k + 1, x3, x6, x9, x10, x11, x62 => if x62 = true then (if 0 ≤ x11 then (if x11 < (x10.length : Int) then ((laws_contains.f k x9 (rd x10 x11)).bind fun t407 => (if t407 = true then (laws_FnRoles.l0 k x3 x6 x9 x10 (wrap64 (x11 + 1))) else (some false))) else (none)) else (none)) else ((impl_ArePairs.f k x3).bind fun t408 => (if t408 = true then ((impl_TopRoles.f x3).bind fun t409 => (laws_FnRoles.l1 k x3 t409 0)) else (some true)))
def laws_FnRoles.l1 : Nat → List (S78) → List Int → Int → Option (Bool)
  | 0, _, _, _ => none
  | k + 1, x3, x12, x13 => if x13 ≤ 5 then (laws_FnRoles.l2 k x3 x12 x13 false 0) else (some true)
def laws_FnRoles.l2 : Nat → List (S78) → List Int → Int → Bool → Int → Option (Bool)
  | 0, _, _, _, _, _ => none
  | k + 1, x3, x12, x13, x14, x15 => if x15 < (x12.length : Int) then (if x14 = true then (laws_FnRoles.l2 k x3 x12 x13 true (wrap64 (x15 + 1))) else (if 0 ≤ x15 then ((impl_RolesUnder.f k x3 (rd x12 x15)).bind fun t413 => ((laws_contains.f k t413 x13).bind fun t416 => (laws_FnRoles.l2 k x3 x12 x13 t416 (wrap64 (x15 + 1))))) else (none))) else (if x14 = true then (laws_FnRoles.l1 k x3 x12 (wrap64 (x13 + 1))) else (some false))
end
def laws_FnRoles.f (k : Nat) (l0 : List Int) : Option (Bool) := (laws_big.f l0).bind fun t383 => (if t383 = true then (some true) else ((spec_DrawHasRole.f k l0).bind fun bt384 => ((impl_RolesOf.f k bt384.1 bt384.2.1 bt384.2.2.1 bt384.2.2.2.2.1 bt384.2.2.2.2.2).bind fun t394 => ((impl_RolesUnder.f k bt384.1 bt384.2.2.2.1).bind fun t397 => ((spec_RolesUnder.f k bt384.1 bt384.2.2.2.1).bind fun t400 => (if (t397.length : Int) = (t400.length : Int) then ((impl_HasRole.f k bt384.1 bt384.2.1 bt384.2.2.1 bt384.2.2.2.1 bt384.2.2.2.2.1 bt384.2.2.2.2.2).bind fun t403 => ((laws_contains.f k t394 bt384.2.2.2.1).bind fun t404 => (if (t403 != t404) = true then (some false) else (laws_FnRoles.l0 k bt384.1 bt384.2.2.2.1 t394 t397 0)))) else (some false)))))))
theorem laws_FnRoles.mono_l : ∀ k, (∀ y0 y1 y2 y3 y4, LeO (laws_FnRoles.l0 k y0 y1 y2 y3 y4) (laws_FnRoles.l0 (k + 1) y0 y1 y2 y3 y4)) ∧ (∀ y0 y1 y2 y3 y4 y5, LeO (laws_FnRoles.j1 k y0 y1 y2 y3 y4 y5) (laws_FnRoles.j1 (k + 1) y0 y1 y2 y3 y4 y5)) ∧ (∀ y0 y1 y2, LeO (laws_FnRoles.l1 k y0 y1 y2) (laws_FnRoles.l1 (k + 1) y0 y1 y2)) ∧ (∀ y0 y1 y2 y3 y4, LeO (laws_FnRoles.l2 k y0 y1 y2 y3 y4) (laws_FnRoles.l2 (k + 1) y0 y1 y2 y3 y4))
  | 0 => ⟨fun _ _ _ _ _ r h => by simp [laws_FnRoles.l0] at h, fun _ _ _ _ _ _ r h => by simp [laws_FnRoles.j1] at h, fun _ _ _ r h => by simp [laws_FnRoles.l1] at h, fun _ _ _ _ _ r h => by simp [laws_FnRoles.l2] at h⟩
  | k + 1 => by
    obtain ⟨ih0, ih1, ih2, ih3⟩ := laws_FnRoles.mono_l k
    refine ⟨?_, ?_, ?_, ?_⟩
    · intro y0 y1 y2 y3 y4
      unfold laws_FnRoles.l0
      repeat' first
      | (with_reducible exact ih0 _ _ _ _ _)
      | (with_reducible exact ih1 _ _ _ _ _ _)
      | (with_reducible exact ih2 _ _ _)
      | (with_reducible exact ih3 _ _ _ _ _)
      | (with_reducible exact impl_ArePairs.mono _ _)
      | (with_reducible exact impl_HasRole.mono _ _ _ _ _ _ _)
      | (with_reducible exact impl_RolesOf.mono _ _ _ _ _ _)
      | (with_reducible exact impl_RolesUnder.mono _ _ _)
      | (with_reducible exact laws_contains.mono _ _ _)
      | (with_reducible exact spec_DrawHasRole.mono _ _)
      | (with_reducible exact spec_RolesUnder.mono _ _ _)
      | (with_reducible exact LeO.refl _)
      | (with_reducible exact LeO.none _)
      | (with_reducible refine LeO.ite ?_ ?_)
      | (with_reducible refine LeO.bind ?_ (fun _ => ?_))
      | exact ih0 _ _ _ _ _
      | exact ih1 _ _ _ _ _ _
      | exact ih2 _ _ _
      | exact ih3 _ _ _ _ _
      | exact impl_ArePairs.mono _ _
      | exact impl_HasRole.mono _ _ _ _ _ _ _
      | exact impl_RolesOf.mono _ _ _ _ _ _
      | exact impl_RolesUnder.mono _ _ _
      | exact laws_contains.mono _ _ _
      | exact spec_DrawHasRole.mono _ _
      | exact spec_RolesUnder.mono _ _ _
      | exact LeO.none _
      | refine LeO.ite ?_ ?_
      | refine LeO.bind ?_ (fun _ => ?_)
    · intro y0 y1 y2 y3 y4 y5
      unfold laws_FnRoles.j1
      repeat' first
      | (with_reducible exact ih0 _ _ _ _ _)
      | (with_reducible exact ih1 _ _ _ _ _ _)
      | (with_reducible exact ih2 _ _ _)
      | (with_reducible exact ih3 _ _ _ _ _)
      | (with_reducible exact impl_ArePairs.mono _ _)
      | (with_reducible exact impl_HasRole.mono _ _ _ _ _ _ _)
      | (with_reducible exact impl_RolesOf.mono _ _ _ _ _ _)
      | (with_reducible exact impl_RolesUnder.mono _ _ _)
      | (with_reducible exact laws_contains.mono _ _ _)
      | (with_reducible exact spec_DrawHasRole.mono _ _)
      | (with_reducible exact spec_RolesUnder.mono _ _ _)
      | (with_reducible exact LeO.refl _)
      | (with_reducible exact LeO.none _)
      | (with_reducible refine LeO.ite ?_ ?_)
      | (with_reducible refine LeO.bind ?_ (fun _ => ?_))
      | exact ih0 _ _ _ _ _
      | exact ih1 _ _ _ _ _ _
      | exact ih2 _ _ _
      | exact ih3 _ _ _ _ _
      | exact impl_ArePairs.mono _ _
      | exact impl_HasRole.mono _ _ _ _ _ _ _
      | exact impl_RolesOf.mono _ _ _ _ _ _
      | exact impl_RolesUnder.mono _ _ _
      | exact laws_contains.mono _ _ _
      | exact spec_DrawHasRole.mono _ _
      | exact spec_RolesUnder.mono _ _ _
      | exact LeO.none _
      | refine LeO.ite ?_ ?_
      | refine LeO.bind ?_ (fun _ => ?_)
    · intro y0 y1 y2
      unfold laws_FnRoles.l1
      repeat' first
      | (with_reducible exact ih0 _ _ _ _ _)
      | (with_reducible exact ih1 _ _ _ _ _ _)
      | (with_reducible exact ih2 _ _ _)
      | (with_reducible exact ih3 _ _ _ _ _)
      | (with_reducible exact impl_ArePairs.mono _ _)
      | (with_reducible exact impl_HasRole.mono _ _ _ _ _ _ _)
      | (with_reducible exact impl_RolesOf.mono _ _ _ _ _ _)
      | (with_reducible exact impl_RolesUnder.mono _ _ _)
      | (with_reducible exact laws_contains.mono _ _ _)
      | (with_reducible exact spec_DrawHasRole.mono _ _)
      | (with_reducible exact spec_RolesUnder.mono _ _ _)
      | (with_reducible exact LeO.refl _)
      | (with_reducible exact LeO.none _)
      | (with_reducible refine LeO.ite ?_ ?_)
      | (with_reducible refine LeO.bind ?_ (fun _ => ?_))
      | exact ih0 _ _ _ _ _
      | exact ih1 _ _ _ _ _ _
      | exact ih2 _ _ _
      | exact ih3 _ _ _ _ _
      | exact impl_ArePairs.mono _ _
      | exact impl_HasRole.mono _ _ _ _ _ _ _
      | exact impl_RolesOf.mono _ _ _ _ _ _
      | exact impl_RolesUnder.mono _ _ _
      | exact laws_contains.mono _ _ _
      | exact spec_DrawHasRole.mono _ _
      | exact spec_RolesUnder.mono _ _ _
      | exact LeO.none _
      | refine LeO.ite ?_ ?_
      | refine LeO.bind ?_ (fun _ => ?_)
    · intro y0 y1 y2 y3 y4
      unfold laws_FnRoles.l2
      repeat' first
      | (with_reducible exact ih0 _ _ _ _ _)
      | (with_reducible exact ih1 _ _ _ _ _ _)
      | (with_reducible exact ih2 _ _ _)
      | (with_reducible exact ih3 _ _ _ _ _)
      | (with_reducible exact impl_ArePairs.mono _ _)
      | (with_reducible exact impl_HasRole.mono _ _ _ _ _ _ _)
      | (with_reducible exact impl_RolesOf.mono _ _ _ _ _ _)
      | (with_reducible exact impl_RolesUnder.mono _ _ _)
      | (with_reducible exact laws_contains.mono _ _ _)
      | (with_reducible exact spec_DrawHasRole.mono _ _)
      | (with_reducible exact spec_RolesUnder.mono _ _ _)
      | (with_reducible exact LeO.refl _)
      | (with_reducible exact LeO.none _)
      | (with_reducible refine LeO.ite ?_ ?_)
      | (with_reducible refine LeO.bind ?_ (fun _ => ?_))
      | exact ih0 _ _ _ _ _
      | exact ih1 _ _ _ _ _ _
      | exact ih2 _ _ _
      | exact ih3 _ _ _ _ _
      | exact impl_ArePairs.mono _ _
      | exact impl_HasRole.mono _ _ _ _ _ _ _
      | exact impl_RolesOf.mono _ _ _ _ _ _
      | exact impl_RolesUnder.mono _ _ _
      | exact laws_contains.mono _ _ _
      | exact spec_DrawHasRole.mono _ _
      | exact spec_RolesUnder.mono _ _ _
      | exact LeO.none _
      | refine LeO.ite ?_ ?_
      | refine LeO.bind ?_ (fun _ => ?_)
theorem laws_FnRoles.mono : ∀ a0 k, LeO (laws_FnRoles.f k a0) (laws_FnRoles.f (k + 1) a0) := by
  intro a0 k
  obtain ⟨ih0, ih1, ih2, ih3⟩ := laws_FnRoles.mono_l k
  unfold laws_FnRoles.f
  repeat' first
      | (with_reducible exact ih0 _ _ _ _ _)
      | (with_reducible exact ih1 _ _ _ _ _ _)
      | (with_reducible exact ih2 _ _ _)
      | (with_reducible exact ih3 _ _ _ _ _)
      | (with_reducible exact impl_ArePairs.mono _ _)
      | (with_reducible exact impl_HasRole.mono _ _ _ _ _ _ _)
      | (with_reducible exact impl_RolesOf.mono _ _ _ _ _ _)
      | (with_reducible exact impl_RolesUnder.mono _ _ _)
      | (with_reducible exact laws_contains.mono _ _ _)
      | (with_reducible exact spec_DrawHasRole.mono _ _)
      | (with_reducible exact spec_RolesUnder.mono _ _ _)
      | (with_reducible exact LeO.refl _)
      | (with_reducible exact LeO.none _)
      | (with_reducible refine LeO.ite ?_ ?_)
      | (with_reducible refine LeO.bind ?_ (fun _ => ?_))
      | exact ih0 _ _ _ _ _
      | exact ih1 _ _ _ _ _ _
      | exact ih2 _ _ _
      | exact ih3 _ _ _ _ _
      | exact impl_ArePairs.mono _ _
      | exact impl_HasRole.mono _ _ _ _ _ _ _
      | exact impl_RolesOf.mono _ _ _ _ _ _
      | exact impl_RolesUnder.mono _ _ _
      | exact laws_contains.mono _ _ _
      | exact spec_DrawHasRole.mono _ _
      | exact spec_RolesUnder.mono _ _ _
      | exact LeO.none _
      | refine LeO.ite ?_ ?_
      | refine LeO.bind ?_ (fun _ => ?_)
theorem pR14_ {P Q : Prop} (h : P) (g : P → Q := by intro h_; (with_reducible repeat (first | apply Kd.R_alloc | apply Kd.R_drewN | apply Kd.R_drew)); exact h_) : Q := g h
theorem z14_0 {Q : Prop} (g : Q := by repeat (first | (with_reducible first | exact HB.out | apply bA_ | apply bN_ | apply bD_) | exact HB.out)) : Q := g
theorem z14_1 {Q : Prop} (g : Q := by (try simp only [List.map_toArray, List.map_cons, List.map_nil]); first | done | rfl | (simp only [List.length_drop, List.length_take]; rfl)) : Q := g
theorem z14_2 {Q : Prop} (g : Q := by first | rfl | (simp; done) | (simp [*]; done)) : Q := g
set_option maxHeartbeats 8000000 in
set_option maxRecDepth 100000 in
theorem laws_FnRoles.calls (k : Nat) (A0 : Option Addr) (c0 : Nat) (l0 : List Int) (r : Bool) (w : World) (hr0 : Kd.C (Kd.int .u8) w A0 l0.length l0) (hc0 : l0.length ≤ c0) (h : laws_FnRoles.f k l0 = some r) (hr_ : Aside0 (r = true)) :
    Calls Try.prog 14 #[.slice A0 l0.length c0] w fun e w' => e = .returned (.bool r) ∧ Below w.heap.size w w' := by
  have HR0 := Aside0.mk hr0
  have HC0 := Aside0.mk hc0
  clear hr0 hc0
  have HB := Aside0.mk (Below.refl w.heap.size w)
  have H : ((laws_big.f l0).bind fun t383 => (if t383 = true then (some true) else ((spec_DrawHasRole.f k l0).bind fun bt384 => ((impl_RolesOf.f k bt384.1 bt384.2.1 bt384.2.2.1 bt384.2.2.2.2.1 bt384.2.2.2.2.2).bind fun t394 => ((impl_RolesUnder.f k bt384.1 bt384.2.2.2.1).bind fun t397 => ((spec_RolesUnder.f k bt384.1 bt384.2.2.2.1).bind fun t400 => (if (t397.length : Int) = (t400.length : Int) then ((impl_HasRole.f k bt384.1 bt384.2.1 bt384.2.2.1 bt384.2.2.2.1 bt384.2.2.2.2.1 bt384.2.2.2.2.2).bind fun t403 => ((laws_contains.f k t394 bt384.2.2.2.1).bind fun t404 => (if (t403 != t404) = true then (some false) else (laws_FnRoles.l0 k bt384.1 bt384.2.2.2.1 t394 t397 0)))) else (some false)))))))) = some r := h
  clear h
  replace H := Option.bind_eq_some_iff.mp H
  obtain ⟨t383, A20, H⟩ := H
  replace H : (if t383 = true then (some true) else ((spec_DrawHasRole.f k l0).bind fun bt384 => ((impl_RolesOf.f k bt384.1 bt384.2.1 bt384.2.2.1 bt384.2.2.2.2.1 bt384.2.2.2.2.2).bind fun t394 => ((impl_RolesUnder.f k bt384.1 bt384.2.2.2.1).bind fun t397 => ((spec_RolesUnder.f k bt384.1 bt384.2.2.2.1).bind fun t400 => (if (t397.length : Int) = (t400.length : Int) then ((impl_HasRole.f k bt384.1 bt384.2.1 bt384.2.2.1 bt384.2.2.2.1 bt384.2.2.2.2.1 bt384.2.2.2.2.2).bind fun t403 => ((laws_contains.f k t394 bt384.2.2.2.1).bind fun t404 => (if (t403 != t404) = true then (some false) else (laws_FnRoles.l0 k bt384.1 bt384.2.2.2.1 t394 t397 0)))) else (some false))))))) = some r := H
  have A2 := Aside0.mk A20
  clear A20
  by_cases c3 : t383 = true
  · subst c3
    have H1 : (some true) = some r := by rw [if_pos rfl] at H; exact H
    clear H
    have H := H1
    clear H1
    obtain rfl := Option.some.inj H
    go_enter Try.func14, Try.ntmps14
    go_wp2_with (first | ((with_reducible refine gate_callee (f := 43) rfl ?_); refine goesL_ (some 17) rfl rfl Try.func43 (by kernel_rfl) rfl #[.slice A0 l0.length c0] rfl z14_1 ?_; (with_reducible refine (laws_big.calls _ _ l0 true _ ?side1 ?side2 A2.out).mono ?_); (case side1 => repeat (first | exact HR0.out | (with_reducible refine Kd.C_alloc ?_ _) | (with_reducible refine Kd.C_drewN ?_ _) | (with_reducible refine Kd.C_drew ?_))); (case side2 => exact HC0.out); rintro e w' ⟨rfl, ⟨nd, rfl⟩⟩; refine ⟨_, rfl, ?_⟩))
    go_ret
    exact ⟨by first | rfl | (simp [errW_none, errW_some] <;> rfl) | (simp [*, errW_none, errW_some] <;> rfl), by repeat (first | (with_reducible first | exact HB.out | apply bA_ | apply bN_ | apply bD_) | exact HB.out)⟩
  · replace c3 := Bool.eq_false_iff.mpr c3
    subst c3
    have H1 : ((spec_DrawHasRole.f k l0).bind fun bt384 => ((impl_RolesOf.f k bt384.1 bt384.2.1 bt384.2.2.1 bt384.2.2.2.2.1 bt384.2.2.2.2.2).bind fun t394 => ((impl_RolesUnder.f k bt384.1 bt384.2.2.2.1).bind fun t397 => ((spec_RolesUnder.f k bt384.1 bt384.2.2.2.1).bind fun t400 => (if (t397.length : Int) = (t400.length : Int) then ((impl_HasRole.f k bt384.1 bt384.2.1 bt384.2.2.1 bt384.2.2.2.1 bt384.2.2.2.2.1 bt384.2.2.2.2.2).bind fun t403 => ((laws_contains.f k t394 bt384.2.2.2.1).bind fun t404 => (if (t403 != t404) = true then (some false) else (laws_FnRoles.l0 k bt384.1 bt384.2.2.2.1 t394 t397 0)))) else (some false)))))) = some r := by rw [if_neg (show ¬ (false = true) by decide)] at H; exact H
    clear H
    have H := H1
    clear H1
    replace H := Option.bind_eq_some_iff.mp H
    obtain ⟨⟨t384, t385, t386, t387, t388, t389⟩, A40, H⟩ := H
    replace H : ((impl_RolesOf.f k t384 t385 t386 t388 t389).bind fun t394 => ((impl_RolesUnder.f k t384 t387).bind fun t397 => ((spec_RolesUnder.f k t384 t387).bind fun t400 => (if (t397.length : Int) = (t400.length : Int) then ((impl_HasRole.f k t384 t385 t386 t387 t388 t389).bind fun t403 => ((laws_contains.f k t394 t387).bind fun t404 => (if (t403 != t404) = true then (some false) else (laws_FnRoles.l0 k t384 t387 t394 t397 0)))) else (some false))))) = some r := H
    have A4 := Aside0.mk A40
    clear A40
    replace H := Option.bind_eq_some_iff.mp H
    obtain ⟨t394, A50, H⟩ := H
    replace H : ((impl_RolesUnder.f k t384 t387).bind fun t397 => ((spec_RolesUnder.f k t384 t387).bind fun t400 => (if (t397.length : Int) = (t400.length : Int) then ((impl_HasRole.f k t384 t385 t386 t387 t388 t389).bind fun t403 => ((laws_contains.f k t394 t387).bind fun t404 => (if (t403 != t404) = true then (some false) else (laws_FnRoles.l0 k t384 t387 t394 t397 0)))) else (some false)))) = some r := H
    have A5 := Aside0.mk A50
    clear A50
    replace H := Option.bind_eq_some_iff.mp H
    obtain ⟨t397, A60, H⟩ := H
    replace H : ((spec_RolesUnder.f k t384 t387).bind fun t400 => (if (t397.length : Int) = (t400.length : Int) then ((impl_HasRole.f k t384 t385 t386 t387 t388 t389).bind fun t403 => ((laws_contains.f k t394 t387).bind fun t404 => (if (t403 != t404) = true then (some false) else (laws_FnRoles.l0 k t384 t387 t394 t397 0)))) else (some false))) = some r := H
    have A6 := Aside0.mk A60
    clear A60
    replace H := Option.bind_eq_some_iff.mp H
    obtain ⟨t400, A70, H⟩ := H
    replace H : (if (t397.length : Int) = (t400.length : Int) then ((impl_HasRole.f k t384 t385 t386 t387 t388 t389).bind fun t403 => ((laws_contains.f k t394 t387).bind fun t404 => (if (t403 != t404) = true then (some false) else (laws_FnRoles.l0 k t384 t387 t394 t397 0)))) else (some false)) = some r := H
    have A7 := Aside0.mk A70
    clear A70
    by_cases c8 : (t397.length : Int) = (t400.length : Int)
    · rw [if_pos c8] at H
      have c8b0 : ((t397.length : Int) == (t400.length : Int)) = true := beq_iff_eq.mpr c8
      have c8b1 : ((t397.length : Int) != (t400.length : Int)) = false := bne_eq_false_iff_eq.mpr c8
      have c8b2 : (t397.length == t400.length) = true := by first | simpa using c8 | (simp at c8 ⊢; omega)
      clear c8
      replace H := Option.bind_eq_some_iff.mp H
      obtain ⟨t403, A90, H⟩ := H
      replace H : ((laws_contains.f k t394 t387).bind fun t404 => (if (t403 != t404) = true then (some false) else (laws_FnRoles.l0 k t384 t387 t394 t397 0))) = some r := H
      have A9 := Aside0.mk A90
      clear A90
      replace H := Option.bind_eq_some_iff.mp H
      obtain ⟨t404, A100, H⟩ := H
      replace H : (if (t403 != t404) = true then (some false) else (laws_FnRoles.l0 k t384 t387 t394 t397 0)) = some r := H
      have A10 := Aside0.mk A100
      clear A100
      by_cases c11 : (t403 != t404) = true
      · rw [if_pos c11] at H
        have c11b0 : (t403 != t404) = true := c11
        (try (have c11b1 : decide (t403 = t404) = false := by simpa using c11))
        (try (have c11b2 : (t403 == t404) = false := by simpa using c11))
        (try (have c11b3 : ¬ (t403 = t404) := by simpa using c11))
        clear c11
        exact absurd ((Option.some.inj H).trans hr_.out) (by decide)
      · rw [if_neg c11] at H
        have c11b0 : (t403 != t404) = false := by simpa using c11
        (try (have c11b1 : decide (t403 = t404) = true := by simpa using c11))
        (try (have c11b2 : (t403 == t404) = true := by simpa using c11))
        clear c11
        have H' := Aside0.mk H
        clear H
        go_enter Try.func14, Try.ntmps14
        go_wp2_with (first | ((with_reducible refine gate_callee (f := 43) rfl ?_); refine goesL_ (some 17) rfl rfl Try.func43 (by kernel_rfl) rfl #[.slice A0 l0.length c0] rfl z14_1 ?_; (with_reducible refine (laws_big.calls _ _ l0 false _ ?side1 ?side2 A2.out).mono ?_); (case side1 => repeat (first | exact HR0.out | (with_reducible refine Kd.C_alloc ?_ _) | (with_reducible refine Kd.C_drewN ?_ _) | (with_reducible refine Kd.C_drew ?_))); (case side2 => exact HC0.out); rintro e w' ⟨rfl, ⟨nd, rfl⟩⟩; refine ⟨_, rfl, ?_⟩) | ((with_reducible refine gate_callee (f := 58) rfl ?_); refine goesL_ (some 20) rfl rfl Try.func58 (by kernel_rfl) rfl #[.slice A0 l0.length c0] rfl z14_1 ?_; (with_reducible refine (spec_DrawHasRole.calls k _ _ l0 t384 t385 t386 t387 t388 t389 _ ?side1 ?side2 A4.out).mono ?_); (case side1 => repeat (first | exact HR0.out | (with_reducible refine Kd.C_alloc ?_ _) | (with_reducible refine Kd.C_drewN ?_ _) | (with_reducible refine Kd.C_drew ?_))); (case side2 => exact HC0.out); rintro e w12 ⟨v390, v392, rfl, ho0, ho1, hb⟩; refine ⟨_, rfl, ?_⟩; have n0_ := Aside0.mk (Kd.R_lower ho0 (below_size z14_0)); have n1_ := Aside0.mk (Kd.R_lower ho1 (below_size z14_0)); have n2_ := Aside0.mk (below_step z14_0 hb); clear HB; have HO391 := n0_; have HO393 := n1_; have HB := n2_; clear n0_ n1_ n2_; (try clear hb); (try clear hb2); (try clear hk); (try clear hi); (try clear ho0); (try clear ho1); obtain ⟨Ao13, co13, eo13⟩ := Kd.R_slice HO391.out; subst eo13; obtain ⟨Ao14, co14, eo14⟩ := Kd.R_slice HO393.out; subst eo14) | ((with_reducible refine gate_callee (f := 20) rfl ?_); refine goesL_ (some 32) rfl rfl Try.func20 (by kernel_rfl) rfl #[.slice Ao13 t384.length co13, .slice Ao14 t385.length co14, .int .i64 t386, .int .i64 t388, .int .i64 t389] rfl z14_1 ?_; (with_reducible refine (impl_RolesOf.calls k _ _ t384 _ _ t385 t386 t388 t389 t394 _ ?side1 ?side2 ?side3 ?side4 A5.out).mono ?_); (case side1 => repeat (first | exact (Kd.R_reads' HO391.out).2.2 | (with_reducible refine Kd.C_alloc ?_ _) | (with_reducible refine Kd.C_drewN ?_ _) | (with_reducible refine Kd.C_drew ?_))); (case side2 => exact (Kd.R_reads' HO391.out).2.1); (case side3 => repeat (first | exact (Kd.R_reads' HO393.out).2.2 | (with_reducible refine Kd.C_alloc ?_ _) | (with_reducible refine Kd.C_drewN ?_ _) | (with_reducible refine Kd.C_drew ?_))); (case side4 => exact (Kd.R_reads' HO393.out).2.1); rintro e w15 ⟨v395, rfl, ho0, hb⟩; refine ⟨_, rfl, ?_⟩; have n0_ := Aside0.mk (Kd.R_below (pR14_ HO391.out) hb); have n1_ := Aside0.mk (Kd.R_below (pR14_ HO393.out) hb); have n2_ := Aside0.mk (Kd.R_lower ho0 (below_size z14_0)); have n3_ := Aside0.mk (below_step z14_0 hb); clear HO391; clear HO393; clear HB; have HO391 := n0_; have HO393 := n1_; have HO396 := n2_; have HB := n3_; clear n0_ n1_ n2_ n3_; (try clear hb); (try clear hb2); (try clear hk); (try clear hi); (try clear ho0)) | ((with_reducible refine gate_callee (f := 33) rfl ?_); refine goesL_ (some 35) rfl rfl Try.func33 (by kernel_rfl) rfl #[.slice Ao13 t384.length co13, .int .i64 t387] rfl z14_1 ?_; (with_reducible refine (impl_RolesUnder.calls k _ _ t384 t387 t397 _ ?side1 ?side2 A6.out).mono ?_); (case side1 => repeat (first | exact (Kd.R_reads' HO391.out).2.2 | (with_reducible refine Kd.C_alloc ?_ _) | (with_reducible refine Kd.C_drewN ?_ _) | (with_reducible refine Kd.C_drew ?_))); (case side2 => exact (Kd.R_reads' HO391.out).2.1); rintro e w16 ⟨v398, rfl, ho0, hb⟩; refine ⟨_, rfl, ?_⟩; have n0_ := Aside0.mk (Kd.R_below (pR14_ HO391.out) hb); have n1_ := Aside0.mk (Kd.R_below (pR14_ HO393.out) hb); have n2_ := Aside0.mk (Kd.R_elder' (pR14_ HO396.out) (Kd.R_base ho0) hb); have n3_ := Aside0.mk (Kd.R_lower (Kd.R_new' ho0 (Kd.R_lt (pR14_ HO396.out))) (below_size z14_0)); have n4_ := Aside0.mk (below_step z14_0 hb); clear HO391; clear HO393; clear HO396; clear HB; have HO391 := n0_; have HO393 := n1_; have HO396 := n2_; have HO399 := n3_; have HB := n4_; clear n0_ n1_ n2_ n3_ n4_; (try clear hb); (try clear hb2); (try clear hk); (try clear hi); (try clear ho0); obtain ⟨Ao17, co17, eo17⟩ := Kd.R_slice HO399.out; subst eo17) | ((with_reducible refine gate_callee (f := 32) rfl ?_); refine goesL_ (some 40) rfl rfl Try.func32 (by kernel_rfl) rfl #[.slice Ao13 t384.length co13, .int .i64 t387] rfl z14_1 ?_; (with_reducible refine (spec_RolesUnder.calls k _ _ t384 t387 t400 _ ?side1 ?side2 A7.out).mono ?_); (case side1 => repeat (first | exact (Kd.R_reads' HO391.out).2.2 | (with_reducible refine Kd.C_alloc ?_ _) | (with_reducible refine Kd.C_drewN ?_ _) | (with_reducible refine Kd.C_drew ?_))); (case side2 => exact (Kd.R_reads' HO391.out).2.1); rintro e w18 ⟨v401, rfl, ho0, hb⟩; refine ⟨_, rfl, ?_⟩; have n0_ := Aside0.mk (Kd.R_below (pR14_ HO391.out) hb); have n1_ := Aside0.mk (Kd.R_below (pR14_ HO393.out) hb); have n2_ := Aside0.mk (Kd.R_elder' (pR14_ HO396.out) (Kd.R_base ho0) hb); have n3_ := Aside0.mk (Kd.R_elder' (pR14_ HO399.out) (Kd.R_base ho0) hb); have n4_ := Aside0.mk (Kd.R_lower (Kd.R_new' (Kd.R_new' ho0 (Kd.R_lt (pR14_ HO396.out))) (Kd.R_lt (pR14_ HO399.out))) (below_size z14_0)); have n5_ := Aside0.mk (below_step z14_0 hb); clear HO391; clear HO393; clear HO396; clear HO399; clear HB; have HO391 := n0_; have HO393 := n1_; have HO396 := n2_; have HO399 := n3_; have HO402 := n4_; have HB := n5_; clear n0_ n1_ n2_ n3_ n4_ n5_; (try clear hb); (try clear hb2); (try clear hk); (try clear hi); (try clear ho0); obtain ⟨Ao19, co19, eo19⟩ := Kd.R_slice HO402.out; subst eo19) | ((with_reducible refine gate_callee (f := 57) rfl ?_); refine goesL_ (some 49) rfl rfl Try.func57 (by kernel_rfl) rfl #[.slice Ao13 t384.length co13, .slice Ao14 t385.length co14, .int .i64 t386, .int .i64 t387, .int .i64 t388, .int .i64 t389] rfl z14_1 ?_; (with_reducible refine (impl_HasRole.calls k _ _ t384 _ _ t385 t386 t387 t388 t389 t403 _ ?side1 ?side2 ?side3 ?side4 A9.out).mono ?_); (case side1 => repeat (first | exact (Kd.R_reads' HO391.out).2.2 | (with_reducible refine Kd.C_alloc ?_ _) | (with_reducible refine Kd.C_drewN ?_ _) | (with_reducible refine Kd.C_drew ?_))); (case side2 => exact (Kd.R_reads' HO391.out).2.1); (case side3 => repeat (first | exact (Kd.R_reads' HO393.out).2.2 | (with_reducible refine Kd.C_alloc ?_ _) | (with_reducible refine Kd.C_drewN ?_ _) | (with_reducible refine Kd.C_drew ?_))); (case side4 => exact (Kd.R_reads' HO393.out).2.1); rintro e w20 ⟨rfl, hb⟩; refine ⟨_, rfl, ?_⟩; have n0_ := Aside0.mk (Kd.R_below (pR14_ HO391.out) hb); have n1_ := Aside0.mk (Kd.R_below (pR14_ HO393.out) hb); have n2_ := Aside0.mk (Kd.R_below (pR14_ HO396.out) hb); have n3_ := Aside0.mk (Kd.R_below (pR14_ HO399.out) hb); have n4_ := Aside0.mk (Kd.R_below (pR14_ HO402.out) hb); have n5_ := Aside0.mk (below_step z14_0 hb); clear HO391; clear HO393; clear HO396; clear HO399; clear HO402; clear HB; have HO391 := n0_; have HO393 := n1_; have HO396 := n2_; have HO399 := n3_; have HO402 := n4_; have HB := n5_; clear n0_ n1_ n2_ n3_ n4_ n5_; (try clear hb); (try clear hb2); (try clear hk); (try clear hi); obtain ⟨Ao21, co21, eo21⟩ := Kd.R_slice HO396.out; subst eo21) | ((with_reducible refine gate_callee (f := 59) rfl ?_); refine goesL_ (some 52) rfl rfl Try.func59 (by kernel_rfl) rfl #[.slice Ao21 t394.length co21, .int .i64 t387] rfl z14_1 ?_; (with_reducible refine (laws_contains.calls k _ _ t394 t387 t404 _ ?side1 ?side2 A10.out).mono ?_); (case side1 => repeat (first | exact (Kd.R_reads' HO396.out).2.2 | (with_reducible refine Kd.C_alloc ?_ _) | (with_reducible refine Kd.C_drewN ?_ _) | (with_reducible refine Kd.C_drew ?_))); (case side2 => exact (Kd.R_reads' HO396.out).2.1); rintro e w' ⟨rfl, ⟨nd, rfl⟩⟩; refine ⟨_, rfl, ?_⟩))
        go_loopg [11] k (fun kq v11 w' => ∃ (x11_1 : Int), v11 = .int .i64 x11_1 ∧ Aside0 (laws_FnRoles.l0 kq t384 t387 t394 t397 x11_1 = some r) ∧ Aside0 (kq ≤ k) ∧ Aside0 (Kd.R k78 78 w' w.heap.size (fun _ => True) (.slice Ao13 t384.length co13) t384) ∧ Aside0 (Kd.R (Kd.int .i64) 3 w' w.heap.size (fun k_ => some k_ ≠ ((.slice Ao17 t397.length co17) : Value).ownBlock) (.slice Ao21 t394.length co21) t394) ∧ Aside0 (Kd.R (Kd.int .i64) 3 w' w.heap.size (fun k_ => some k_ ≠ ((.slice Ao21 t394.length co21) : Value).ownBlock) (.slice Ao17 t397.length co17) t397) ∧ Aside0 (Below w.heap.size w w'))
        case atStart => exact ⟨(0), z14_2, H', ⟨Nat.le_refl _⟩, ⟨by (with_reducible repeat (first | apply Kd.R_alloc | apply Kd.R_drewN | apply Kd.R_drew)); exact HO391.out⟩, ⟨by (with_reducible repeat (first | apply Kd.R_alloc | apply Kd.R_drewN | apply Kd.R_drew)); exact Kd.R_mono HO396.out (fun _ hk => hk.1.2)⟩, ⟨by (with_reducible repeat (first | apply Kd.R_alloc | apply Kd.R_drewN | apply Kd.R_drew)); exact Kd.R_mono HO399.out (fun _ hk => hk.1.2)⟩, ⟨by repeat (first | (with_reducible first | exact HB.out | apply bA_ | apply bN_ | apply bD_) | exact HB.out)⟩⟩
        case round =>
          clear H'
          try clear c1
          try clear c2
          try clear p2
          try clear c3
          try clear c4
          try clear c5
          try clear c8
          try clear c8b0
          try clear c8b1
          try clear c8b2
          try clear c11
          try clear c11b0
          try clear c11b1
          try clear c11b2
          try clear c14
          try clear c20
          obtain ⟨x11_1, rfl, HA, HK1, HO_3, HO_9, HO_10, HB⟩ := hrel
          cases gk with
          | zero => exact absurd HA.out (by simp [laws_FnRoles.l0])
          | succ k1 =>
            have H := HA.out
            clear HA
            simp only [laws_FnRoles.l0] at H
            have HC22 := Aside0.mk H
            clear H
            go_upto_region 11 with (fail)
            go_cut [62] (fun v62 wc => ∃ (kq : Nat) (x62_21 : Bool), v62 = .bool x62_21 ∧ Aside0 (laws_FnRoles.j1 kq t384 t387 t394 t397 x11_1 x62_21 = some r) ∧ Aside0 (kq ≤ k1) ∧ Aside0 (Kd.R k78 78 wc w.heap.size (fun _ => True) (.slice Ao13 t384.length co13) t384) ∧ Aside0 (Kd.R (Kd.int .i64) 3 wc w.heap.size (fun k_ => some k_ ≠ ((.slice Ao17 t397.length co17) : Value).ownBlock) (.slice Ao21 t394.length co21) t394) ∧ Aside0 (Kd.R (Kd.int .i64) 3 wc w.heap.size (fun k_ => some k_ ≠ ((.slice Ao21 t394.length co21) : Value).ownBlock) (.slice Ao17 t397.length co17) t397) ∧ Aside0 (Below w.heap.size w wc))
            case first =>
              have H := HC22.out
              clear HC22
              by_cases c23 : x11_1 < (t397.length : Int)
              · rw [if_pos c23] at H
                have c23b0 : decide (x11_1 < (t397.length : Int)) = true := decide_eq_true c23
                clear c23
                (first | rw [c23b0] | (simp only [i64_w, i32_w]; rw [c23b0]) | skip)
                replace H := Option.bind_eq_some_iff.mp H
                obtain ⟨t405, A240, H⟩ := H
                replace H : (laws_FnRoles.j1 k1 t384 t387 t394 t397 x11_1 t405) = some r := H
                have A24 := Aside0.mk A240
                clear A240
                have H' := Aside0.mk H
                clear H
                go_wp2_with (first | (go_at_call 59; (with_reducible refine (laws_contains.calls k1 _ _ t394 t387 t405 _ ?side1 ?side2 A24.out).mono ?_); (case side1 => repeat (first | exact (Kd.R_reads' HO_9.out).2.2 | (with_reducible refine Kd.C_alloc ?_ _) | (with_reducible refine Kd.C_drewN ?_ _) | (with_reducible refine Kd.C_drew ?_))); (case side2 => exact (Kd.R_reads' HO_9.out).2.1); rintro e w' ⟨rfl, ⟨nd, rfl⟩⟩))
                go_meet
                case rel => exact ⟨_, (t405), z14_2, H', ⟨by have := HK1.out; first | omega | exact Nat.le_refl _⟩, ⟨by (with_reducible repeat (first | apply Kd.R_alloc | apply Kd.R_drewN | apply Kd.R_drew)); exact HO_3.out⟩, ⟨by (with_reducible repeat (first | apply Kd.R_alloc | apply Kd.R_drewN | apply Kd.R_drew)); exact HO_9.out⟩, ⟨by (with_reducible repeat (first | apply Kd.R_alloc | apply Kd.R_drewN | apply Kd.R_drew)); exact HO_10.out⟩, ⟨by repeat (first | (with_reducible first | exact HB.out | apply bA_ | apply bN_ | apply bD_) | exact HB.out)⟩⟩
              · rw [if_neg c23] at H
                have c23b0 : decide (x11_1 < (t397.length : Int)) = false := decide_eq_false c23
                clear c23
                (first | rw [c23b0] | (simp only [i64_w, i32_w]; rw [c23b0]) | skip)
                have H' := Aside0.mk H
                clear H
                go_wp2
                go_meet
                case rel => exact ⟨_, (false), z14_2, H', ⟨by have := HK1.out; first | omega | exact Nat.le_refl _⟩, ⟨by (with_reducible repeat (first | apply Kd.R_alloc | apply Kd.R_drewN | apply Kd.R_drew)); exact HO_3.out⟩, ⟨by (with_reducible repeat (first | apply Kd.R_alloc | apply Kd.R_drewN | apply Kd.R_drew)); exact HO_9.out⟩, ⟨by (with_reducible repeat (first | apply Kd.R_alloc | apply Kd.R_drewN | apply Kd.R_drew)); exact HO_10.out⟩, ⟨by repeat (first | (with_reducible first | exact HB.out | apply bA_ | apply bN_ | apply bD_) | exact HB.out)⟩⟩
            case rest =>
              clear HC22
              try clear c1
              try clear c2
              try clear p2
              try clear c3
              try clear c4
              try clear c5
              try clear c8
              try clear c8b0
              try clear c8b1
              try clear c8b2
              try clear c11
              try clear c11b0
              try clear c11b1
              try clear c11b2
              try clear c14
              try clear c20
              try clear c23
              try clear c23b0
              try clear p2
              obtain ⟨kq, x62_21, rfl, HA, HJ21, HO_3, HO_9, HO_10, HB⟩ := hcut
              cases kq with
              | zero => exact absurd HA.out (by simp [laws_FnRoles.j1])
              | succ kj21 =>
                have H := HA.out
                clear HA
                simp only [laws_FnRoles.j1] at H
                by_cases c25 : x62_21 = true
                · subst c25
                  have H1 : (if 0 ≤ x11_1 then (if x11_1 < (t397.length : Int) then ((laws_contains.f kj21 t394 (rd t397 x11_1)).bind fun t407 => (if t407 = true then (laws_FnRoles.l0 kj21 t384 t387 t394 t397 (wrap64 (x11_1 + 1))) else (some false))) else (none)) else (none)) = some r := by rw [if_pos rfl] at H; exact H
                  clear H
                  have H := H1
                  clear H1
                  by_cases c26 : 0 ≤ x11_1
                  · rw [if_pos c26] at H
                    have c26b0 : decide (0 ≤ x11_1) = true := decide_eq_true c26
                    clear c26
                    by_cases c27 : x11_1 < (t397.length : Int)
                    · rw [if_pos c27] at H
                      have c27b0 : decide (x11_1 < (t397.length : Int)) = true := decide_eq_true c27
                      clear c27
                      replace H := Option.bind_eq_some_iff.mp H
                      obtain ⟨t407, A280, H⟩ := H
                      replace H : (if t407 = true then (laws_FnRoles.l0 kj21 t384 t387 t394 t397 (wrap64 (x11_1 + 1))) else (some false)) = some r := H
                      have A28 := Aside0.mk A280
                      clear A280
                      by_cases c29 : t407 = true
                      · subst c29
                        have H1 : (laws_FnRoles.l0 kj21 t384 t387 t394 t397 (wrap64 (x11_1 + 1))) = some r := by rw [if_pos rfl] at H; exact H
                        clear H
                        have H := H1
                        clear H1
                        have H' := Aside0.mk H
                        clear H
                        have p406 : 0 ≤ (x11_1 : Int) := of_decide_eq_true (by first | (with_reducible assumption) | assumption)
                        have q406 : x11_1 < (t397.length : Int) := of_decide_eq_true (by first | (with_reducible assumption) | assumption)
                        obtain ⟨ad406, e406, hx406_0⟩ := Kd.at_int (Kd.R_reads' HO_10.out).2.2 x11_1 p406 q406
                        cases e406
                        replace p406 := eq_true p406
                        replace q406 := eq_true q406
                        go_wp2_with (first | ((with_reducible refine gate_callee (f := 59) rfl ?_); refine goesL_ (some 70) rfl rfl Try.func59 (by kernel_rfl) rfl #[.slice Ao21 t394.length co21, .int .i64 (rd t397 x11_1)] rfl z14_1 ?_; (with_reducible refine (laws_contains.calls kj21 _ _ t394 (rd t397 x11_1) true _ ?side1 ?side2 A28.out).mono ?_); (case side1 => repeat (first | exact (Kd.R_reads' HO_9.out).2.2 | (with_reducible refine Kd.C_alloc ?_ _) | (with_reducible refine Kd.C_drewN ?_ _) | (with_reducible refine Kd.C_drew ?_))); (case side2 => exact (Kd.R_reads' HO_9.out).2.1); rintro e w' ⟨rfl, ⟨nd, rfl⟩⟩; refine ⟨_, rfl, ?_⟩))
                        go_roundg kj21
                        case measure => have := HK1.out; have := HJ21.out; omega
                        case rel => exact ⟨(wrap64 (x11_1 + 1)), z14_2, H', ⟨by have := HK1.out; have := HJ21.out; omega⟩, ⟨by (with_reducible repeat (first | apply Kd.R_alloc | apply Kd.R_drewN | apply Kd.R_drew)); exact HO_3.out⟩, ⟨by (with_reducible repeat (first | apply Kd.R_alloc | apply Kd.R_drewN | apply Kd.R_drew)); exact HO_9.out⟩, ⟨by (with_reducible repeat (first | apply Kd.R_alloc | apply Kd.R_drewN | apply Kd.R_drew)); exact HO_10.out⟩, ⟨by repeat (first | (with_reducible first | exact HB.out | apply bA_ | apply bN_ | apply bD_) | exact HB.out)⟩⟩
                      · replace c29 := Bool.eq_false_iff.mpr c29
                        subst c29
                        have H1 : (some false) = some r := by rw [if_neg (show ¬ (false = true) by decide)] at H; exact H
                        clear H
                        have H := H1
                        clear H1
                        exact absurd ((Option.some.inj H).trans hr_.out) (by decide)
                    · rw [if_neg c27] at H
                      exact absurd H (by simp)
                  · rw [if_neg c26] at H
                    exact absurd H (by simp)
                · replace c25 := Bool.eq_false_iff.mpr c25
                  subst c25
                  have H1 : ((impl_ArePairs.f kj21 t384).bind fun t408 => (if t408 = true then ((impl_TopRoles.f t384).bind fun t409 => (laws_FnRoles.l1 kj21 t384 t409 0)) else (some true))) = some r := by rw [if_neg (show ¬ (false = true) by decide)] at H; exact H
                  clear H
                  have H := H1
                  clear H1
                  replace H := Option.bind_eq_some_iff.mp H
                  obtain ⟨t408, A300, H⟩ := H
                  replace H : (if t408 = true then ((impl_TopRoles.f t384).bind fun t409 => (laws_FnRoles.l1 kj21 t384 t409 0)) else (some true)) = some r := H
                  have A30 := Aside0.mk A300
                  clear A300
                  by_cases c31 : t408 = true
                  · subst c31
                    have H1 : ((impl_TopRoles.f t384).bind fun t409 => (laws_FnRoles.l1 kj21 t384 t409 0)) = some r := by rw [if_pos rfl] at H; exact H
                    clear H
                    have H := H1
                    clear H1
                    replace H := Option.bind_eq_some_iff.mp H
                    obtain ⟨t409, A320, H⟩ := H
                    replace H : (laws_FnRoles.l1 kj21 t384 t409 0) = some r := H
                    have A32 := Aside0.mk A320
                    clear A320
                    have H' := Aside0.mk H
                    clear H
                    go_wp2_with (first | ((with_reducible refine gate_callee (f := 29) rfl ?_); refine goesL_ (some 73) rfl rfl Try.func29 (by kernel_rfl) rfl #[.slice Ao13 t384.length co13] rfl z14_1 ?_; (with_reducible refine (impl_ArePairs.calls kj21 _ _ t384 true _ ?side1 ?side2 A30.out).mono ?_); (case side1 => repeat (first | exact (Kd.R_reads' HO_3.out).2.2 | (with_reducible refine Kd.C_alloc ?_ _) | (with_reducible refine Kd.C_drewN ?_ _) | (with_reducible refine Kd.C_drew ?_))); (case side2 => exact (Kd.R_reads' HO_3.out).2.1); rintro e w33 ⟨rfl, hb⟩; refine ⟨_, rfl, ?_⟩; have n0_ := Aside0.mk (Kd.R_below (pR14_ HO_3.out) hb); have n1_ := Aside0.mk (Kd.R_below (pR14_ HO_9.out) hb); have n2_ := Aside0.mk (Kd.R_below (pR14_ HO_10.out) hb); have n3_ := Aside0.mk (below_step z14_0 hb); clear HO_3; clear HO_9; clear HO_10; clear HB; have HO_3 := n0_; have HO_9 := n1_; have HO_10 := n2_; have HB := n3_; clear n0_ n1_ n2_ n3_; (try clear hb); (try clear hb2); (try clear hk); (try clear hi)) | ((with_reducible refine gate_callee (f := 31) rfl ?_); refine goesL_ (some 76) rfl rfl Try.func31 (by kernel_rfl) rfl #[.slice Ao13 t384.length co13] rfl z14_1 ?_; (with_reducible refine (impl_TopRoles.calls _ _ t384 t409 _ ?side1 ?side2 A32.out).mono ?_); (case side1 => repeat (first | exact (Kd.R_reads' HO_3.out).2.2 | (with_reducible refine Kd.C_alloc ?_ _) | (with_reducible refine Kd.C_drewN ?_ _) | (with_reducible refine Kd.C_drew ?_))); (case side2 => exact (Kd.R_reads' HO_3.out).2.1); rintro e w34 ⟨v410, rfl, ho0, hb⟩; refine ⟨_, rfl, ?_⟩; have n0_ := Aside0.mk (Kd.R_below (pR14_ HO_3.out) hb); have n1_ := Aside0.mk (Kd.R_elder' (pR14_ HO_9.out) (Kd.R_base ho0) hb); have n2_ := Aside0.mk (Kd.R_elder' (pR14_ HO_10.out) (Kd.R_base ho0) hb); have n3_ := Aside0.mk (Kd.R_lower (Kd.R_new' (Kd.R_new' ho0 (Kd.R_lt (pR14_ HO_9.out))) (Kd.R_lt (pR14_ HO_10.out))) (below_size z14_0)); have n4_ := Aside0.mk (below_step z14_0 hb); clear HO_3; clear HO_9; clear HO_10; clear HB; have HO_3 := n0_; have HO_9 := n1_; have HO_10 := n2_; have HO411 := n3_; have HB := n4_; clear n0_ n1_ n2_ n3_ n4_; (try clear hb); (try clear hb2); (try clear hk); (try clear hi); (try clear ho0)))
                    go_loopg [13] kj21 (fun kq v13 w' => ∃ (x13_3 : Int), v13 = .int .i64 x13_3 ∧ Aside0 (laws_FnRoles.l1 kq t384 t409 x13_3 = some r) ∧ Aside0 (kq ≤ kj21) ∧ Aside0 (Kd.R k78 78 w' w.heap.size (fun _ => True) (.slice Ao13 t384.length co13) t384) ∧ Aside0 (Kd.R (Kd.int .i64) 3 w' w.heap.size (fun _ => True) v410 t409) ∧ Aside0 (Below w.heap.size w w'))
                    case atStart => exact ⟨(0), z14_2, H', ⟨Nat.le_refl _⟩, ⟨by (with_reducible repeat (first | apply Kd.R_alloc | apply Kd.R_drewN | apply Kd.R_drew)); exact HO_3.out⟩, ⟨by (with_reducible repeat (first | apply Kd.R_alloc | apply Kd.R_drewN | apply Kd.R_drew)); exact Kd.R_mono HO411.out (fun _ hk => trivial)⟩, ⟨by repeat (first | (with_reducible first | exact HB.out | apply bA_ | apply bN_ | apply bD_) | exact HB.out)⟩⟩
                    case round =>
                      clear H'
                      try clear c1
                      try clear c2
                      try clear p2
                      try clear c3
                      try clear c4
                      try clear p4
                      try clear q4
                      try clear hx4
                      try clear c5
                      try clear p6
                      try clear c8
                      try clear c8b0
                      try clear c8b1
                      try clear c8b2
                      try clear c11
                      try clear c11b0
                      try clear c11b1
                      try clear c11b2
                      try clear c14
                      try clear c20
                      try clear c23
                      try clear c23b0
                      try clear c25
                      try clear c26
                      try clear c26b0
                      try clear c27
                      try clear c27b0
                      try clear c29
                      try clear c31
                      try clear c32
                      try clear c33
                      try clear hx406_0
                      try clear p2
                      try clear p406
                      try clear q406
                      obtain ⟨x13_3, rfl, HA, HK3, HO_3, HO_12, HB⟩ := hrel
                      cases gk with
                      | zero => exact absurd HA.out (by simp [laws_FnRoles.l1])
                      | succ k3 =>
                        have H := HA.out
                        clear HA
                        simp only [laws_FnRoles.l1] at H
                        by_cases c35 : x13_3 ≤ 5
                        · rw [if_pos c35] at H
                          have c35b0 : decide (x13_3 ≤ 5) = true := decide_eq_true c35
                          clear c35
                          have H' := Aside0.mk H
                          clear H
                          go_wp2
                          go_loopg [14, 15] k3 (fun kq v14 v15 w' => ∃ (x14_4 : Bool) (x15_4 : Int), v14 = .bool x14_4 ∧ v15 = .int .i64 x15_4 ∧ Aside0 (laws_FnRoles.l2 kq t384 t409 x13_3 x14_4 x15_4 = some r) ∧ Aside0 (kq ≤ k3) ∧ Aside0 (Kd.R k78 78 w' w.heap.size (fun _ => True) (.slice Ao13 t384.length co13) t384) ∧ Aside0 (Kd.R (Kd.int .i64) 3 w' w.heap.size (fun _ => True) v410 t409) ∧ Aside0 (Below w.heap.size w w'))
                          case atStart => exact ⟨(false), (0), z14_2, z14_2, H', ⟨Nat.le_refl _⟩, ⟨by (with_reducible repeat (first | apply Kd.R_alloc | apply Kd.R_drewN | apply Kd.R_drew)); exact HO_3.out⟩, ⟨by (with_reducible repeat (first | apply Kd.R_alloc | apply Kd.R_drewN | apply Kd.R_drew)); exact HO_12.out⟩, ⟨by repeat (first | (with_reducible first | exact HB.out | apply bA_ | apply bN_ | apply bD_) | exact HB.out)⟩⟩
                          case round =>
                            clear H'
                            try clear c1
                            try clear c2
                            try clear p2
                            try clear c3
                            try clear c4
                            try clear p4
                            try clear q4
                            try clear hx4
                            try clear c5
                            try clear p6
                            try clear c8
                            try clear c8b0
                            try clear c8b1
                            try clear c8b2
                            try clear c11
                            try clear c11b0
                            try clear c11b1
                            try clear c11b2
                            try clear c14
                            try clear c20
                            try clear c23
                            try clear c23b0
                            try clear c25
                            try clear c26
                            try clear c26b0
                            try clear c27
                            try clear c27b0
                            try clear c29
                            try clear c31
                            try clear c32
                            try clear c33
                            try clear c35
                            try clear c35b0
                            try clear hx406_0
                            try clear p2
                            try clear p4
                            try clear p406
                            try clear p6
                            try clear q4
                            try clear q406
                            obtain ⟨x14_4, x15_4, rfl, rfl, HA, HK4, HO_3, HO_12, HB⟩ := hrel
                            cases gk with
                            | zero => exact absurd HA.out (by simp [laws_FnRoles.l2])
                            | succ k4 =>
                              have H := HA.out
                              clear HA
                              simp only [laws_FnRoles.l2] at H
                              by_cases c36 : x15_4 < (t409.length : Int)
                              · rw [if_pos c36] at H
                                have c36b0 : decide (x15_4 < (t409.length : Int)) = true := decide_eq_true c36
                                clear c36
                                by_cases c37 : x14_4 = true
                                · subst c37
                                  have H1 : (laws_FnRoles.l2 k4 t384 t409 x13_3 true (wrap64 (x15_4 + 1))) = some r := by rw [if_pos rfl] at H; exact H
                                  clear H
                                  have H := H1
                                  clear H1
                                  have H' := Aside0.mk H
                                  clear H
                                  obtain ⟨Ao38, co38, eo38⟩ := Kd.R_slice HO_12.out
                                  subst eo38
                                  go_wp2
                                  go_roundg k4
                                  case measure => have := HK1.out; have := HJ21.out; have := HK3.out; have := HK4.out; omega
                                  case rel => exact ⟨(true), (wrap64 (x15_4 + 1)), z14_2, z14_2, H', ⟨by have := HK1.out; have := HJ21.out; have := HK3.out; have := HK4.out; omega⟩, ⟨by (with_reducible repeat (first | apply Kd.R_alloc | apply Kd.R_drewN | apply Kd.R_drew)); exact HO_3.out⟩, ⟨by (with_reducible repeat (first | apply Kd.R_alloc | apply Kd.R_drewN | apply Kd.R_drew)); exact HO_12.out⟩, ⟨by repeat (first | (with_reducible first | exact HB.out | apply bA_ | apply bN_ | apply bD_) | exact HB.out)⟩⟩
                                · replace c37 := Bool.eq_false_iff.mpr c37
                                  subst c37
                                  have H1 : (if 0 ≤ x15_4 then ((impl_RolesUnder.f k4 t384 (rd t409 x15_4)).bind fun t413 => ((laws_contains.f k4 t413 x13_3).bind fun t416 => (laws_FnRoles.l2 k4 t384 t409 x13_3 t416 (wrap64 (x15_4 + 1))))) else (none)) = some r := by rw [if_neg (show ¬ (false = true) by decide)] at H; exact H
                                  clear H
                                  have H := H1
                                  clear H1
                                  by_cases c39 : 0 ≤ x15_4
                                  · rw [if_pos c39] at H
                                    have c39b0 : decide (0 ≤ x15_4) = true := decide_eq_true c39
                                    clear c39
                                    replace H := Option.bind_eq_some_iff.mp H
                                    obtain ⟨t413, A400, H⟩ := H
                                    replace H : ((laws_contains.f k4 t413 x13_3).bind fun t416 => (laws_FnRoles.l2 k4 t384 t409 x13_3 t416 (wrap64 (x15_4 + 1)))) = some r := H
                                    have A40 := Aside0.mk A400
                                    clear A400
                                    replace H := Option.bind_eq_some_iff.mp H
                                    obtain ⟨t416, A410, H⟩ := H
                                    replace H : (laws_FnRoles.l2 k4 t384 t409 x13_3 t416 (wrap64 (x15_4 + 1))) = some r := H
                                    have A41 := Aside0.mk A410
                                    clear A410
                                    have H' := Aside0.mk H
                                    clear H
                                    obtain ⟨Ao42, co42, eo42⟩ := Kd.R_slice HO_12.out
                                    subst eo42
                                    have p412 : 0 ≤ (x15_4 : Int) := of_decide_eq_true (by first | (with_reducible assumption) | assumption)
                                    have q412 : x15_4 < (t409.length : Int) := of_decide_eq_true (by first | (with_reducible assumption) | assumption)
                                    obtain ⟨ad412, e412, hx412_0⟩ := Kd.at_int (Kd.R_reads' HO_12.out).2.2 x15_4 p412 q412
                                    cases e412
                                    replace p412 := eq_true p412
                                    replace q412 := eq_true q412
                                    go_wp2_with (first | (go_at_call 33; (with_reducible refine (impl_RolesUnder.calls k4 _ _ t384 (rd t409 x15_4) t413 _ ?side1 ?side2 A40.out).mono ?_); (case side1 => repeat (first | exact (Kd.R_reads' HO_3.out).2.2 | (with_reducible refine Kd.C_alloc ?_ _) | (with_reducible refine Kd.C_drewN ?_ _) | (with_reducible refine Kd.C_drew ?_))); (case side2 => exact (Kd.R_reads' HO_3.out).2.1); rintro e w43 ⟨v414, rfl, ho0, hb⟩; have n0_ := Aside0.mk (Kd.R_below (pR14_ HO_3.out) hb); have n1_ := Aside0.mk (Kd.R_elder' (pR14_ HO_12.out) (Kd.R_base ho0) hb); have n2_ := Aside0.mk (Kd.R_lower (Kd.R_new' ho0 (Kd.R_lt (pR14_ HO_12.out))) (below_size z14_0)); have n3_ := Aside0.mk (below_step z14_0 hb); clear HO_3; clear HO_12; clear HB; have HO_3 := n0_; have HO_12 := n1_; have HO415 := n2_; have HB := n3_; clear n0_ n1_ n2_ n3_; (try clear hb); (try clear hb2); (try clear hk); (try clear hi); (try clear ho0); obtain ⟨Ao44, co44, eo44⟩ := Kd.R_slice HO415.out; subst eo44) | (go_at_call 59; (with_reducible refine (laws_contains.calls k4 _ _ t413 x13_3 t416 _ ?side1 ?side2 A41.out).mono ?_); (case side1 => repeat (first | exact (Kd.R_reads' HO415.out).2.2 | (with_reducible refine Kd.C_alloc ?_ _) | (with_reducible refine Kd.C_drewN ?_ _) | (with_reducible refine Kd.C_drew ?_))); (case side2 => exact (Kd.R_reads' HO415.out).2.1); rintro e w' ⟨rfl, ⟨nd, rfl⟩⟩))
                                    go_roundg k4
                                    case measure => have := HK1.out; have := HJ21.out; have := HK3.out; have := HK4.out; omega
                                    case rel => exact ⟨(t416), (wrap64 (x15_4 + 1)), z14_2, z14_2, H', ⟨by have := HK1.out; have := HJ21.out; have := HK3.out; have := HK4.out; omega⟩, ⟨by (with_reducible repeat (first | apply Kd.R_alloc | apply Kd.R_drewN | apply Kd.R_drew)); exact HO_3.out⟩, ⟨by (with_reducible repeat (first | apply Kd.R_alloc | apply Kd.R_drewN | apply Kd.R_drew)); exact Kd.R_mono HO_12.out (fun _ hk => trivial)⟩, ⟨by repeat (first | (with_reducible first | exact HB.out | apply bA_ | apply bN_ | apply bD_) | exact HB.out)⟩⟩
                                  · rw [if_neg c39] at H
                                    exact absurd H (by simp)
                              · rw [if_neg c36] at H
                                have c36b0 : decide (x15_4 < (t409.length : Int)) = false := decide_eq_false c36
                                clear c36
                                by_cases c45 : x14_4 = true
                                · subst c45
                                  have H1 : (laws_FnRoles.l1 k4 t384 t409 (wrap64 (x13_3 + 1))) = some r := by rw [if_pos rfl] at H; exact H
                                  clear H
                                  have H := H1
                                  clear H1
                                  have H' := Aside0.mk H
                                  clear H
                                  obtain ⟨Ao46, co46, eo46⟩ := Kd.R_slice HO_12.out
                                  subst eo46
                                  go_wp2
                                  go_roundg k4
                                  case measure => have := HK1.out; have := HJ21.out; have := HK3.out; have := HK4.out; omega
                                  case rel => exact ⟨(wrap64 (x13_3 + 1)), z14_2, H', ⟨by have := HK1.out; have := HJ21.out; have := HK3.out; have := HK4.out; omega⟩, ⟨by (with_reducible repeat (first | apply Kd.R_alloc | apply Kd.R_drewN | apply Kd.R_drew)); exact HO_3.out⟩, ⟨by (with_reducible repeat (first | apply Kd.R_alloc | apply Kd.R_drewN | apply Kd.R_drew)); exact HO_12.out⟩, ⟨by repeat (first | (with_reducible first | exact HB.out | apply bA_ | apply bN_ | apply bD_) | exact HB.out)⟩⟩
                                · replace c45 := Bool.eq_false_iff.mpr c45
                                  subst c45
                                  have H1 : (some false) = some r := by rw [if_neg (show ¬ (false = true) by decide)] at H; exact H
                                  clear H
                                  have H := H1
                                  clear H1
                                  exact absurd ((Option.some.inj H).trans hr_.out) (by decide)
                        · rw [if_neg c35] at H
                          have c35b0 : decide (x13_3 ≤ 5) = false := decide_eq_false c35
                          clear c35
                          obtain rfl := Option.some.inj H
                          go_wp2
                          go_ret
                          exact ⟨by first | rfl | (simp [errW_none, errW_some] <;> rfl) | (simp [*, errW_none, errW_some] <;> rfl), by repeat (first | (with_reducible first | exact HB.out | apply bA_ | apply bN_ | apply bD_) | exact HB.out)⟩
                  · replace c31 := Bool.eq_false_iff.mpr c31
                    subst c31
                    have H1 : (some true) = some r := by rw [if_neg (show ¬ (false = true) by decide)] at H; exact H
                    clear H
                    have H := H1
                    clear H1
                    obtain rfl := Option.some.inj H
                    go_wp2_with (first | ((with_reducible refine gate_callee (f := 29) rfl ?_); refine goesL_ (some 73) rfl rfl Try.func29 (by kernel_rfl) rfl #[.slice Ao13 t384.length co13] rfl z14_1 ?_; (with_reducible refine (impl_ArePairs.calls kj21 _ _ t384 false _ ?side1 ?side2 A30.out).mono ?_); (case side1 => repeat (first | exact (Kd.R_reads' HO_3.out).2.2 | (with_reducible refine Kd.C_alloc ?_ _) | (with_reducible refine Kd.C_drewN ?_ _) | (with_reducible refine Kd.C_drew ?_))); (case side2 => exact (Kd.R_reads' HO_3.out).2.1); rintro e w47 ⟨rfl, hb⟩; refine ⟨_, rfl, ?_⟩; have n0_ := Aside0.mk (Kd.R_below (pR14_ HO_3.out) hb); have n1_ := Aside0.mk (Kd.R_below (pR14_ HO_9.out) hb); have n2_ := Aside0.mk (Kd.R_below (pR14_ HO_10.out) hb); have n3_ := Aside0.mk (below_step z14_0 hb); clear HO_3; clear HO_9; clear HO_10; clear HB; have HO_3 := n0_; have HO_9 := n1_; have HO_10 := n2_; have HB := n3_; clear n0_ n1_ n2_ n3_; (try clear hb); (try clear hb2); (try clear hk); (try clear hi)))
                    go_ret
                    exact ⟨by first | rfl | (simp [errW_none, errW_some] <;> rfl) | (simp [*, errW_none, errW_some] <;> rfl), by repeat (first | (with_reducible first | exact HB.out | apply bA_ | apply bN_ | apply bD_) | exact HB.out)⟩
    · rw [if_neg c8] at H
      have c8b0 : ((t397.length : Int) == (t400.length : Int)) = false := beq_eq_false_iff_ne.mpr c8
      have c8b1 : ((t397.length : Int) != (t400.length : Int)) = true := bne_iff_ne.mpr c8
      have c8b2 : (t397.length == t400.length) = false := by first | simpa using c8 | (simp at c8 ⊢; omega)
      exact absurd ((Option.some.inj H).trans hr_.out) (by decide)

/-- THE ONE PURE STATEMENT of laws_FnRoles. -/
def laws_FnRoles.Pure : Prop := ∀ (l0 : List Int), ((l0.length ≤ maxLen ∧ ∀ y2 ∈ l0, (Lit.int .u8 y2).wf = true)) → ∃ k, laws_FnRoles.f k l0 = some true

end Go.Proofs.Ytgmgoabohppkeaa.XFnRoles
