/- Written by this session's own program (wip/xprint, which runs over the kit's print): what the functions that the law reaches come to, each proved; and the law's row. Conditions: none. -/
import Derived.Test.YtgmgoabohppkeaaUFnRolesx0
import Derived.Test.YtgmgoabohppkeaaUFnRolesx2
namespace Go.Proofs.Ytgmgoabohppkeaa.XFnRoles
open Go.RowKit Go.Proofs.YtgmgoabohppkeaaW.PrintWords Go.Proofs.YtgmgoabohppkeaaW.PrintLast Go.Proofs.YtgmgoabohppkeaaW.PrintMore
attribute [local go_sem] max2_int min2_int max_two min_two max_three min_three max_four min_four   -- for this text's walks alone
set_option linter.unusedVariables false
set_option linter.unusedSimpArgs false

/-! ### spec_RolesUnder: function 32 -/
mutual
def spec_RolesUnder.l0 : Nat → List (S78) → List Int → List Bool → Int → Option (List Int)
  | 0, _, _, _, _ => none
  | k + 1, x0, x5, x6, x7 => if x7 ≤ 5 then (spec_RolesUnder.l1 k x0 x5 x6 x7 0) else (spec_RolesUnder.l2 k x5 x6 0)
def spec_RolesUnder.l1 : Nat → List (S78) → List Int → List Bool → Int → Int → Option (List Int)
  | 0, _, _, _, _, _ => none
  | k + 1, x0, x5, x6, x7, x8 => if x8 < (x0.length : Int) then (if 0 ≤ x8 then ((spec_l1In.f ((rd_T78 x0 x8).f0) 0 5).bind fun t156 => (if t156 = true then ((spec_l1In.f ((rd_T78 x0 x8).f1) 0 5).bind fun t158 => (if t158 = true then (if 0 ≤ ((rd_T78 x0 x8).f0) then (if ((rd_T78 x0 x8).f0) < (x6.length : Int) then (if rdOf false x6 ((rd_T78 x0 x8).f0) = true then (if 0 ≤ ((rd_T78 x0 x8).f1) then (if ((rd_T78 x0 x8).f1) < (x6.length : Int) then (spec_RolesUnder.l1 k x0 x5 (x6.set (((rd_T78 x0 x8).f1) : Int).toNat true) x7 (wrap64 (x8 + 1))) else (none)) else (none)) else (spec_RolesUnder.l1 k x0 x5 x6 x7 (wrap64 (x8 + 1)))) else (none)) else (none)) else (spec_RolesUnder.l1 k x0 x5 x6 x7 (wrap64 (x8 + 1))))) else (spec_RolesUnder.l1 k x0 x5 x6 x7 (wrap64 (x8 + 1))))) else (none)) else (spec_RolesUnder.l0 k x0 x5 x6 (wrap64 (x7 + 1)))
def spec_RolesUnder.l2 : Nat → List Int → List Bool → Int → Option (List Int)
  | 0, _, _, _ => none
  | k + 1, x5, x6, x9 => if x9 ≤ 5 then (if 0 ≤ x9 then (if x9 < (x6.length : Int) then (if rdOf false x6 x9 = true then (if x5.length < 17592186044416 then (spec_RolesUnder.l2 k (x5 ++ [x9]) x6 (wrap64 (x9 + 1))) else (none)) else (spec_RolesUnder.l2 k x5 x6 (wrap64 (x9 + 1)))) else (none)) else (none)) else (some x5)
end
def spec_RolesUnder.f (k : Nat) (l0 : List (S78)) (a1 : Int) : Option (List Int) := (some (([] : List Int) : List Int)).bind fun y147 => ((spec_l1In.f a1 0 5).bind fun t150 => (if t150 = true then (if 6 ≤ 281474976710656 then ((some (List.replicate 6 false : List Bool)).bind fun y151 => (if 0 ≤ a1 then (if a1 < (y151.length : Int) then (spec_RolesUnder.l0 k l0 y147 (y151.set (a1 : Int).toNat true) 0) else (none)) else (none))) else (none)) else (some y147)))
theorem spec_RolesUnder.mono_l : ∀ k, (∀ y0 y1 y2 y3, LeO (spec_RolesUnder.l0 k y0 y1 y2 y3) (spec_RolesUnder.l0 (k + 1) y0 y1 y2 y3)) ∧ (∀ y0 y1 y2 y3 y4, LeO (spec_RolesUnder.l1 k y0 y1 y2 y3 y4) (spec_RolesUnder.l1 (k + 1) y0 y1 y2 y3 y4)) ∧ (∀ y0 y1 y2, LeO (spec_RolesUnder.l2 k y0 y1 y2) (spec_RolesUnder.l2 (k + 1) y0 y1 y2))
  | 0 => ⟨fun _ _ _ _ r h => by simp [spec_RolesUnder.l0] at h, fun _ _ _ _ _ r h => by simp [spec_RolesUnder.l1] at h, fun _ _ _ r h => by simp [spec_RolesUnder.l2] at h⟩
  | k + 1 => by
    obtain ⟨ih0, ih1, ih2⟩ := spec_RolesUnder.mono_l k
    refine ⟨?_, ?_, ?_⟩
    · intro y0 y1 y2 y3
      unfold spec_RolesUnder.l0
      repeat' first
      | (with_reducible exact ih0 _ _ _ _)
      | (with_reducible exact ih1 _ _ _ _ _)
      | (with_reducible exact ih2 _ _ _)
      | (with_reducible exact LeO.refl _)
      | (with_reducible exact LeO.none _)
      | (with_reducible refine LeO.ite ?_ ?_)
      | (with_reducible refine LeO.bind ?_ (fun _ => ?_))
      | exact ih0 _ _ _ _
      | exact ih1 _ _ _ _ _
      | exact ih2 _ _ _
      | exact LeO.none _
      | refine LeO.ite ?_ ?_
      | refine LeO.bind ?_ (fun _ => ?_)
    · intro y0 y1 y2 y3 y4
      unfold spec_RolesUnder.l1
      repeat' first
      | (with_reducible exact ih0 _ _ _ _)
      | (with_reducible exact ih1 _ _ _ _ _)
      | (with_reducible exact ih2 _ _ _)
      | (with_reducible exact LeO.refl _)
      | (with_reducible exact LeO.none _)
      | (with_reducible refine LeO.ite ?_ ?_)
      | (with_reducible refine LeO.bind ?_ (fun _ => ?_))
      | exact ih0 _ _ _ _
      | exact ih1 _ _ _ _ _
      | exact ih2 _ _ _
      | exact LeO.none _
      | refine LeO.ite ?_ ?_
      | refine LeO.bind ?_ (fun _ => ?_)
    · intro y0 y1 y2
      unfold spec_RolesUnder.l2
      repeat' first
      | (with_reducible exact ih0 _ _ _ _)
      | (with_reducible exact ih1 _ _ _ _ _)
      | (with_reducible exact ih2 _ _ _)
      | (with_reducible exact LeO.refl _)
      | (with_reducible exact LeO.none _)
      | (with_reducible refine LeO.ite ?_ ?_)
      | (with_reducible refine LeO.bind ?_ (fun _ => ?_))
      | exact ih0 _ _ _ _
      | exact ih1 _ _ _ _ _
      | exact ih2 _ _ _
      | exact LeO.none _
      | refine LeO.ite ?_ ?_
      | refine LeO.bind ?_ (fun _ => ?_)
theorem spec_RolesUnder.mono : ∀ a0 a1 k, LeO (spec_RolesUnder.f k a0 a1) (spec_RolesUnder.f (k + 1) a0 a1) := by
  intro a0 a1 k
  obtain ⟨ih0, ih1, ih2⟩ := spec_RolesUnder.mono_l k
  unfold spec_RolesUnder.f
  repeat' first
      | (with_reducible exact ih0 _ _ _ _)
      | (with_reducible exact ih1 _ _ _ _ _)
      | (with_reducible exact ih2 _ _ _)
      | (with_reducible exact LeO.refl _)
      | (with_reducible exact LeO.none _)
      | (with_reducible refine LeO.ite ?_ ?_)
      | (with_reducible refine LeO.bind ?_ (fun _ => ?_))
      | exact ih0 _ _ _ _
      | exact ih1 _ _ _ _ _
      | exact ih2 _ _ _
      | exact LeO.none _
      | refine LeO.ite ?_ ?_
      | refine LeO.bind ?_ (fun _ => ?_)
theorem pR32_ {P Q : Prop} (h : P) (g : P → Q := by intro h_; (with_reducible repeat (first | apply Kd.R_alloc | apply Kd.R_drewN | apply Kd.R_drew)); exact h_) : Q := g h
theorem z32_0 {Q : Prop} (g : Q := by first | (with_reducible assumption) | assumption) : Q := g
theorem z32_1 {Q : Prop} (g : Q := by repeat (first | (with_reducible first | exact HB.out | apply bA_ | apply bN_ | apply bD_) | exact HB.out)) : Q := g
theorem z32_2 {Q : Prop} (g : Q := by (try simp only [List.map_toArray, List.map_cons, List.map_nil]); first | done | rfl | (simp only [List.length_drop, List.length_take]; rfl)) : Q := g
theorem z32_3 {Q : Prop} (g : Q := by first | rfl | (simp; done) | (simp [*]; done)) : Q := g
set_option maxHeartbeats 8000000 in
set_option maxRecDepth 100000 in
theorem spec_RolesUnder.calls (k : Nat) (A0 : Option Addr) (c0 : Nat) (l0 : List (S78)) (a1 : Int) (r : List Int) (w : World) (hr0 : Kd.C k78 w A0 l0.length l0) (hc0 : l0.length ≤ c0) (h : spec_RolesUnder.f k l0 a1 = some r) :
    Calls Try.prog 32 #[.slice A0 l0.length c0, .int .i64 a1] w fun e w' => ∃ v0_ : Value, e = .returned (v0_) ∧ Kd.R (Kd.int .i64) 3 w' w.heap.size (fun _ => True) v0_ r ∧ Below w.heap.size w w' := by
  have HR0 := Aside0.mk hr0
  have HC0 := Aside0.mk hc0
  clear hr0 hc0
  have HB := Aside0.mk (Below.refl w.heap.size w)
  have H : ((some (([] : List Int) : List Int)).bind fun y147 => ((spec_l1In.f a1 0 5).bind fun t150 => (if t150 = true then (if 6 ≤ 281474976710656 then ((some (List.replicate 6 false : List Bool)).bind fun y151 => (if 0 ≤ a1 then (if a1 < (y151.length : Int) then (spec_RolesUnder.l0 k l0 y147 (y151.set (a1 : Int).toNat true) 0) else (none)) else (none))) else (none)) else (some y147)))) = some r := h
  clear h
  obtain ⟨y147, hy147⟩ : ∃ y_ : List Int, y_ = (([] : List Int)) := ⟨_, rfl⟩
  replace H : ((spec_l1In.f a1 0 5).bind fun t150 => (if t150 = true then (if 6 ≤ 281474976710656 then ((some (List.replicate 6 false : List Bool)).bind fun y151 => (if 0 ≤ a1 then (if a1 < (y151.length : Int) then (spec_RolesUnder.l0 k l0 y147 (y151.set (a1 : Int).toNat true) 0) else (none)) else (none))) else (none)) else (some y147))) = some r := by first | (rw [hy147]; with_reducible exact H) | (have H2_ := (Option.bind_some _ _).symm.trans H; rw [hy147]; with_reducible exact H2_) | (have H2_ := (Option.bind_some _ _).symm.trans H; with_reducible exact H2_) | with_reducible exact H | (rw [hy147]; exact H) | exact H
  have Ny147 := Aside0.mk hy147
  clear hy147
  replace H := Option.bind_eq_some_iff.mp H
  obtain ⟨t150, A30, H⟩ := H
  replace H : (if t150 = true then (if 6 ≤ 281474976710656 then ((some (List.replicate 6 false : List Bool)).bind fun y151 => (if 0 ≤ a1 then (if a1 < (y151.length : Int) then (spec_RolesUnder.l0 k l0 y147 (y151.set (a1 : Int).toNat true) 0) else (none)) else (none))) else (none)) else (some y147)) = some r := H
  have A3 := Aside0.mk A30
  clear A30
  by_cases c4 : t150 = true
  · subst c4
    have H1 : (if 6 ≤ 281474976710656 then ((some (List.replicate 6 false : List Bool)).bind fun y151 => (if 0 ≤ a1 then (if a1 < (y151.length : Int) then (spec_RolesUnder.l0 k l0 y147 (y151.set (a1 : Int).toNat true) 0) else (none)) else (none))) else (none)) = some r := by rw [if_pos rfl] at H; exact H
    clear H
    have H := H1
    clear H1
    by_cases c5 : 6 ≤ 281474976710656
    · rw [if_pos c5] at H
      have c5b0 := eq_true c5
      have c5b1 : decide (6 ≤ 281474976710656) = true := decide_eq_true c5
      clear c5
      obtain ⟨y151, hy151⟩ : ∃ y_ : List Bool, y_ = (List.replicate 6 false) := ⟨_, rfl⟩
      replace H : (if 0 ≤ a1 then (if a1 < (y151.length : Int) then (spec_RolesUnder.l0 k l0 y147 (y151.set (a1 : Int).toNat true) 0) else (none)) else (none)) = some r := by first | (rw [hy151]; with_reducible exact H) | (have H2_ := (Option.bind_some _ _).symm.trans H; rw [hy151]; with_reducible exact H2_) | (have H2_ := (Option.bind_some _ _).symm.trans H; with_reducible exact H2_) | with_reducible exact H | (rw [hy151]; exact H) | exact H
      have Ny151 := Aside0.mk hy151
      clear hy151
      by_cases c6 : 0 ≤ a1
      · rw [if_pos c6] at H
        have c6b0 : decide (0 ≤ a1) = true := decide_eq_true c6
        clear c6
        by_cases c7 : a1 < (y151.length : Int)
        · rw [if_pos c7] at H
          have c7b0 : decide (a1 < (y151.length : Int)) = true := decide_eq_true c7
          clear c7
          obtain ⟨y154, hy154⟩ : ∃ y_ : List Bool, y_ = (y151.set (a1 : Int).toNat true) := ⟨_, rfl⟩
          replace H : (spec_RolesUnder.l0 k l0 y147 y154 0) = some r := by first | (rw [hy154]; with_reducible exact H) | (have H2_ := (Option.bind_some _ _).symm.trans H; rw [hy154]; with_reducible exact H2_) | (have H2_ := (Option.bind_some _ _).symm.trans H; with_reducible exact H2_) | with_reducible exact H | (rw [hy154]; exact H) | exact H
          have Ny154 := Aside0.mk hy154
          clear hy154
          have H' := Aside0.mk H
          clear H
          go_enter Try.func32, Try.ntmps32
          go_wp2_with (first | ((with_reducible refine gate_dst (N := 10) rfl ?_); refine Kd.R_lit (Kd.int .i64) _ 3 ?hg (N := 10) ?hd (xs := ([] : List Int)) (inner := []) (ok := fun _ => True) (okp := fun _ => True) ?hr ?hp (fun _ hk => hk) trivial (Below.refl _ _) (Nat.le_refl _) (by simp) ?_; (case hd => rfl); (case hg => rfl); (case hr => first | (go_simp; done) | (go_simp; rfl)); (case hp => exact (Reps.none _ _)); intro v148 w9 ho10 hb hg_ hnew_; clear hg_ hnew_; (first | rw [← Ny147.out] at ho10 | (simp only [Int.reduceToNat] at ho10; rw [← Ny147.out] at ho10)); have n0_ := Aside0.mk (Kd.R_lower ho10 (below_size z32_1)); have n1_ := Aside0.mk (below_step z32_1 hb); clear HB; have HO149 := n0_; have HB := n1_; clear n0_ n1_; clear hb ho10) | ((with_reducible refine gate_callee (f := 68) rfl ?_); refine goesL_ (some 12) rfl rfl Try.func68 (by kernel_rfl) rfl #[.int .i64 a1, .int .i64 0, .int .i64 5] rfl z32_2 ?_; (with_reducible refine (spec_l1In.calls a1 0 5 true _ A3.out).mono ?_); rintro e w' ⟨rfl, ⟨nd, rfl⟩⟩; refine ⟨_, rfl, ?_⟩; (try (rw [drewN_self w9]; generalize hq_ : World.drewN w9 _ = w9; have n0_ : Aside0 (Kd.R (Kd.int .i64) 3 w9 w.heap.size (fun _ => True) v148 y147) := ⟨by rw [← hq_]; exact (pR32_ HO149.out)⟩; have n1_ : Aside0 (Below w.heap.size w w9) := ⟨by rw [← hq_]; exact z32_1⟩; clear HO149 HB hq_; have HO149 := n0_; have HB := n1_; clear n0_ n1_))) | ((with_reducible refine gate_dst (N := 15) rfl ?_); refine Kd.R_make Kd.bool _ 4 rfl (N := 15) rfl 73 _ _ rfl 6 rfl rfl Try.underlying73 (.bool false) 1 info4 rfl (by decide) (by omega) false (ok := fun _ => True) (okp := fun _ => True) rfl (fun _ hk => hk) trivial (by omega) (by omega) (Below.refl _ _) (Nat.le_refl _) ?_; intro v152 w11 ho12 hb hg_ hnew_; clear hg_ hnew_; (first | rw [← Ny151.out] at ho12 | (simp only [Int.reduceToNat] at ho12; rw [← Ny151.out] at ho12)); have n0_ := Aside0.mk (Kd.R_below (pR32_ HO149.out) hb); have n1_ := Aside0.mk (Kd.R_lower ho12 (below_size z32_1)); have n2_ := Aside0.mk (below_step z32_1 hb); clear HO149; clear HB; have HO149 := n0_; have HO153 := n1_; have HB := n2_; clear n0_ n1_ n2_; clear hb ho12; have p8 : 0 ≤ (a1 : Int) := of_decide_eq_true z32_0; have q8 : (a1 : Int) < ((y151.length : Int) : Int) := of_decide_eq_true z32_0; obtain ⟨go8, co8, eo8, gb8, gl8, cl8, HG8⟩ := Kd.R_form HO153.out (by omega); (first | cases eo8 | (injection eo8 with ea_ en_ ec_; (first | subst ea_ | (injection ea_ with ea_; subst ea_)); subst ec_; clear en_)); have GB8 := Aside0.mk gb8; have GG8 := Aside0.mk HG8; clear gb8 gl8 HG8; obtain ⟨hx8_0, hf8_0⟩ := Kd.R_celln false HO153.out (a1 : Int) p8 q8; replace p8 := eq_true p8; replace q8 := eq_true q8; obtain ⟨hy13_, hz13_⟩ := Kd.R_celln false HO153.out (a1 : Int) (of_decide_eq_true z32_0) (of_decide_eq_true z32_0); have HP13 := Kd.R_putg HO153.out (a1 : Int) true) | ((with_reducible refine gate_store (t := 4) (p := 18) rfl ?_); refine store_event (t := 4) (p := 18) (v := ?vo_w14) (w1 := (w11.setCell ⟨go8, (a1 : Int).toNat, none⟩ (.bool true))) ?hg ?ho ?hn ?hr ?_; (case ho => rfl); (case hg => rfl); (case hn => rfl); (case hr => first | (go_simp; done) | (go_simp; rfl)); intro w14 hw; have hg : w11.grownBy w14 (some go8) := (by rw [hw]; exact HP13.2); have hp_ : Kd.R Kd.bool 4 w14 w.heap.size (fun _ => True) (.slice (some ⟨go8, 0, none⟩) y151.length co8) y154 := (by rw [hw, Ny154.out]; exact HP13.1); clear HP13; have n0_ := Aside0.mk (Kd.R_over' (v := (.slice (some ⟨go8, 0, none⟩) y151.length co8)) (pR32_ HO149.out) (Kd.R_typed HO153.out) (by decide) hg); have n1_ := Aside0.mk (hp_); have n2_ := Aside0.mk ((by rw [hw]; exact bS_ (HB.out) GB8.out : Below w.heap.size w w14)); clear HO149; clear HO153; clear HB; have HO149 := n0_; have HO153 := n1_; have HB := n2_; clear n0_ n1_ n2_; clear hg hw hp_))
          go_loopg [7] k (fun kq v7 w' => ∃ (x6_1 : List Bool) (x7_1 : Int), v7 = .int .i64 x7_1 ∧ Aside0 (spec_RolesUnder.l0 kq l0 y147 x6_1 x7_1 = some r) ∧ Aside0 (kq ≤ k) ∧ Aside0 (Kd.R (Kd.int .i64) 3 w' w.heap.size (fun _ => True) v148 y147) ∧ Aside0 (Kd.R Kd.bool 4 w' w.heap.size (fun _ => True) (.slice (some ⟨go8, 0, none⟩) y151.length co8) x6_1) ∧ Aside0 (Below w.heap.size w w'))
          case atStart => exact ⟨(y154), (0), z32_3, H', ⟨Nat.le_refl _⟩, ⟨by (with_reducible repeat (first | apply Kd.R_alloc | apply Kd.R_drewN | apply Kd.R_drew)); exact HO149.out⟩, ⟨by (with_reducible repeat (first | apply Kd.R_alloc | apply Kd.R_drewN | apply Kd.R_drew)); exact HO153.out⟩, ⟨by repeat (first | (with_reducible first | exact HB.out | apply bA_ | apply bN_ | apply bD_) | exact HB.out)⟩⟩
          case round =>
            clear H'
            try clear p2
            try clear c3
            try clear c4
            try clear c5
            try clear c5b0
            try clear c5b1
            try clear c6
            try clear c6b0
            try clear c7
            try clear c7b0
            try clear p8
            try clear q8
            try clear hx8
            try clear hf8
            try clear hx8_0
            try clear p8
            try clear q8
            obtain ⟨x6_1, x7_1, rfl, HA, HK1, HO_5, HO_6, HB⟩ := hrel
            have hl6_1 := (Kd.R_reads' HO_6.out).1
            rw [hl6_1] at HO_6
            (try simp only [hl6_1])
            (try simp only [hl6_1] at HO_5)
            cases gk with
            | zero => exact absurd HA.out (by simp [spec_RolesUnder.l0])
            | succ k1 =>
              have H := HA.out
              clear HA
              simp only [spec_RolesUnder.l0] at H
              by_cases c15 : x7_1 ≤ 5
              · rw [if_pos c15] at H
                have c15b0 : decide (x7_1 ≤ 5) = true := decide_eq_true c15
                clear c15
                have H' := Aside0.mk H
                clear H
                go_wp2
                go_loopg [8] k1 (fun kq v8 w' => ∃ (x6_2 : List Bool) (x8_2 : Int), v8 = .int .i64 x8_2 ∧ Aside0 (spec_RolesUnder.l1 kq l0 y147 x6_2 x7_1 x8_2 = some r) ∧ Aside0 (kq ≤ k1) ∧ Aside0 (Kd.R (Kd.int .i64) 3 w' w.heap.size (fun _ => True) v148 y147) ∧ Aside0 (Kd.R Kd.bool 4 w' w.heap.size (fun _ => True) (.slice (some ⟨go8, 0, none⟩) x6_1.length co8) x6_2) ∧ Aside0 (Below w.heap.size w w'))
                case atStart => exact ⟨(x6_1), (0), z32_3, H', ⟨Nat.le_refl _⟩, ⟨by (try simp only [hl6_1]); (with_reducible repeat (first | apply Kd.R_alloc | apply Kd.R_drewN | apply Kd.R_drew)); exact HO_5.out⟩, ⟨by (try simp only [hl6_1]); (with_reducible repeat (first | apply Kd.R_alloc | apply Kd.R_drewN | apply Kd.R_drew)); exact HO_6.out⟩, ⟨by repeat (first | (with_reducible first | exact HB.out | apply bA_ | apply bN_ | apply bD_) | exact HB.out)⟩⟩
                case round =>
                  clear H'
                  try clear c1
                  try clear p2
                  try clear c3
                  try clear c4
                  try clear c5
                  try clear c5b0
                  try clear c5b1
                  try clear c6
                  try clear c6b0
                  try clear c7
                  try clear c7b0
                  try clear p8
                  try clear q8
                  try clear hx8
                  try clear hf8
                  try clear c15
                  try clear c15b0
                  try clear hx8_0
                  try clear p2
                  try clear p8
                  try clear q8
                  obtain ⟨x6_2, x8_2, rfl, HA, HK2, HO_5, HO_6, HB⟩ := hrel
                  have hl6_2 := (Kd.R_reads' HO_6.out).1
                  rw [hl6_2] at HO_6
                  (try simp only [hl6_2])
                  (try simp only [hl6_2] at HO_5)
                  cases gk with
                  | zero => exact absurd HA.out (by simp [spec_RolesUnder.l1])
                  | succ k2 =>
                    have H := HA.out
                    clear HA
                    simp only [spec_RolesUnder.l1] at H
                    by_cases c16 : x8_2 < (l0.length : Int)
                    · rw [if_pos c16] at H
                      have c16b0 : decide (x8_2 < (l0.length : Int)) = true := decide_eq_true c16
                      clear c16
                      by_cases c17 : 0 ≤ x8_2
                      · rw [if_pos c17] at H
                        have c17b0 : decide (0 ≤ x8_2) = true := decide_eq_true c17
                        clear c17
                        replace H := Option.bind_eq_some_iff.mp H
                        obtain ⟨t156, A180, H⟩ := H
                        replace H : (if t156 = true then ((spec_l1In.f ((rd_T78 l0 x8_2).f1) 0 5).bind fun t158 => (if t158 = true then (if 0 ≤ ((rd_T78 l0 x8_2).f0) then (if ((rd_T78 l0 x8_2).f0) < (x6_2.length : Int) then (if rdOf false x6_2 ((rd_T78 l0 x8_2).f0) = true then (if 0 ≤ ((rd_T78 l0 x8_2).f1) then (if ((rd_T78 l0 x8_2).f1) < (x6_2.length : Int) then (spec_RolesUnder.l1 k2 l0 y147 (x6_2.set (((rd_T78 l0 x8_2).f1) : Int).toNat true) x7_1 (wrap64 (x8_2 + 1))) else (none)) else (none)) else (spec_RolesUnder.l1 k2 l0 y147 x6_2 x7_1 (wrap64 (x8_2 + 1)))) else (none)) else (none)) else (spec_RolesUnder.l1 k2 l0 y147 x6_2 x7_1 (wrap64 (x8_2 + 1))))) else (spec_RolesUnder.l1 k2 l0 y147 x6_2 x7_1 (wrap64 (x8_2 + 1)))) = some r := H
                        have A18 := Aside0.mk A180
                        clear A180
                        by_cases c19 : t156 = true
                        · subst c19
                          have H1 : ((spec_l1In.f ((rd_T78 l0 x8_2).f1) 0 5).bind fun t158 => (if t158 = true then (if 0 ≤ ((rd_T78 l0 x8_2).f0) then (if ((rd_T78 l0 x8_2).f0) < (x6_2.length : Int) then (if rdOf false x6_2 ((rd_T78 l0 x8_2).f0) = true then (if 0 ≤ ((rd_T78 l0 x8_2).f1) then (if ((rd_T78 l0 x8_2).f1) < (x6_2.length : Int) then (spec_RolesUnder.l1 k2 l0 y147 (x6_2.set (((rd_T78 l0 x8_2).f1) : Int).toNat true) x7_1 (wrap64 (x8_2 + 1))) else (none)) else (none)) else (spec_RolesUnder.l1 k2 l0 y147 x6_2 x7_1 (wrap64 (x8_2 + 1)))) else (none)) else (none)) else (spec_RolesUnder.l1 k2 l0 y147 x6_2 x7_1 (wrap64 (x8_2 + 1))))) = some r := by rw [if_pos rfl] at H; exact H
                          clear H
                          have H := H1
                          clear H1
                          replace H := Option.bind_eq_some_iff.mp H
                          obtain ⟨t158, A200, H⟩ := H
                          replace H : (if t158 = true then (if 0 ≤ ((rd_T78 l0 x8_2).f0) then (if ((rd_T78 l0 x8_2).f0) < (x6_2.length : Int) then (if rdOf false x6_2 ((rd_T78 l0 x8_2).f0) = true then (if 0 ≤ ((rd_T78 l0 x8_2).f1) then (if ((rd_T78 l0 x8_2).f1) < (x6_2.length : Int) then (spec_RolesUnder.l1 k2 l0 y147 (x6_2.set (((rd_T78 l0 x8_2).f1) : Int).toNat true) x7_1 (wrap64 (x8_2 + 1))) else (none)) else (none)) else (spec_RolesUnder.l1 k2 l0 y147 x6_2 x7_1 (wrap64 (x8_2 + 1)))) else (none)) else (none)) else (spec_RolesUnder.l1 k2 l0 y147 x6_2 x7_1 (wrap64 (x8_2 + 1)))) = some r := H
                          have A20 := Aside0.mk A200
                          clear A200
                          by_cases c21 : t158 = true
                          · subst c21
                            have H1 : (if 0 ≤ ((rd_T78 l0 x8_2).f0) then (if ((rd_T78 l0 x8_2).f0) < (x6_2.length : Int) then (if rdOf false x6_2 ((rd_T78 l0 x8_2).f0) = true then (if 0 ≤ ((rd_T78 l0 x8_2).f1) then (if ((rd_T78 l0 x8_2).f1) < (x6_2.length : Int) then (spec_RolesUnder.l1 k2 l0 y147 (x6_2.set (((rd_T78 l0 x8_2).f1) : Int).toNat true) x7_1 (wrap64 (x8_2 + 1))) else (none)) else (none)) else (spec_RolesUnder.l1 k2 l0 y147 x6_2 x7_1 (wrap64 (x8_2 + 1)))) else (none)) else (none)) = some r := by rw [if_pos rfl] at H; exact H
                            clear H
                            have H := H1
                            clear H1
                            by_cases c22 : 0 ≤ ((rd_T78 l0 x8_2).f0)
                            · rw [if_pos c22] at H
                              have c22b0 : decide (0 ≤ ((rd_T78 l0 x8_2).f0)) = true := decide_eq_true c22
                              clear c22
                              by_cases c23 : ((rd_T78 l0 x8_2).f0) < (x6_2.length : Int)
                              · rw [if_pos c23] at H
                                have c23b0 : decide (((rd_T78 l0 x8_2).f0) < (x6_2.length : Int)) = true := decide_eq_true c23
                                clear c23
                                obtain ⟨bq24, hbq24⟩ : ∃ b_ : Bool, b_ = (rdOf false x6_2 ((rd_T78 l0 x8_2).f0)) := ⟨_, rfl⟩
                                replace H : (if bq24 = true then (if 0 ≤ ((rd_T78 l0 x8_2).f1) then (if ((rd_T78 l0 x8_2).f1) < (x6_2.length : Int) then (spec_RolesUnder.l1 k2 l0 y147 (x6_2.set (((rd_T78 l0 x8_2).f1) : Int).toNat true) x7_1 (wrap64 (x8_2 + 1))) else (none)) else (none)) else (spec_RolesUnder.l1 k2 l0 y147 x6_2 x7_1 (wrap64 (x8_2 + 1)))) = some r := by rw [← hbq24] at H; exact H
                                have Nbq24 := Aside0.mk hbq24
                                clear hbq24
                                by_cases c25 : bq24 = true
                                · subst c25
                                  have H1 : (if 0 ≤ ((rd_T78 l0 x8_2).f1) then (if ((rd_T78 l0 x8_2).f1) < (x6_2.length : Int) then (spec_RolesUnder.l1 k2 l0 y147 (x6_2.set (((rd_T78 l0 x8_2).f1) : Int).toNat true) x7_1 (wrap64 (x8_2 + 1))) else (none)) else (none)) = some r := by rw [if_pos rfl] at H; exact H
                                  clear H
                                  have H := H1
                                  clear H1
                                  by_cases c26 : 0 ≤ ((rd_T78 l0 x8_2).f1)
                                  · rw [if_pos c26] at H
                                    have c26b0 : decide (0 ≤ ((rd_T78 l0 x8_2).f1)) = true := decide_eq_true c26
                                    clear c26
                                    by_cases c27 : ((rd_T78 l0 x8_2).f1) < (x6_2.length : Int)
                                    · rw [if_pos c27] at H
                                      have c27b0 : decide (((rd_T78 l0 x8_2).f1) < (x6_2.length : Int)) = true := decide_eq_true c27
                                      clear c27
                                      obtain ⟨y162, hy162⟩ : ∃ y_ : List Bool, y_ = (x6_2.set (((rd_T78 l0 x8_2).f1) : Int).toNat true) := ⟨_, rfl⟩
                                      replace H : (spec_RolesUnder.l1 k2 l0 y147 y162 x7_1 (wrap64 (x8_2 + 1))) = some r := by first | (rw [hy162]; with_reducible exact H) | (have H2_ := (Option.bind_some _ _).symm.trans H; rw [hy162]; with_reducible exact H2_) | (have H2_ := (Option.bind_some _ _).symm.trans H; with_reducible exact H2_) | with_reducible exact H | (rw [hy162]; exact H) | exact H
                                      have Ny162 := Aside0.mk hy162
                                      clear hy162
                                      have H' := Aside0.mk H
                                      clear H
                                      have p155 : 0 ≤ (x8_2 : Int) := of_decide_eq_true z32_0
                                      have q155 : x8_2 < (l0.length : Int) := of_decide_eq_true z32_0
                                      obtain ⟨ad155, e155, hx155_0, hx155_1⟩ := at_T78 HR0.out x8_2 p155 q155
                                      cases e155
                                      replace hx155_0 := (HB.out.cell (World.block_lt_of_cell? w _ hx155_0)).trans hx155_0
                                      replace hx155_1 := (HB.out.cell (World.block_lt_of_cell? w _ hx155_1)).trans hx155_1
                                      replace p155 := eq_true p155
                                      replace q155 := eq_true q155
                                      go_wp2_with (first | ((with_reducible refine gate_callee (f := 68) rfl ?_); refine goesL_ (some 34) rfl rfl Try.func68 (by kernel_rfl) rfl #[.int .i64 ((rd_T78 l0 x8_2).f0), .int .i64 0, .int .i64 5] rfl z32_2 ?_; (with_reducible refine (spec_l1In.calls ((rd_T78 l0 x8_2).f0) 0 5 true _ A18.out).mono ?_); rintro e w' ⟨rfl, ⟨nd, rfl⟩⟩; refine ⟨_, rfl, ?_⟩; (try (rw [drewN_self wr]; generalize hq_ : World.drewN wr _ = wr; have n0_ : Aside0 (Kd.R (Kd.int .i64) 3 wr w.heap.size (fun _ => True) v148 y147) := ⟨by rw [← hq_]; exact (pR32_ HO_5.out)⟩; have n1_ : Aside0 (Kd.R Kd.bool 4 wr w.heap.size (fun _ => True) (.slice (some ⟨go8, 0, none⟩) x6_2.length co8) x6_2) := ⟨by rw [← hq_]; exact (pR32_ HO_6.out)⟩; have n2_ : Aside0 (Below w.heap.size w wr) := ⟨by rw [← hq_]; exact z32_1⟩; clear HO_5 HO_6 HB hq_; have HO_5 := n0_; have HO_6 := n1_; have HB := n2_; clear n0_ n1_ n2_)); have p157 : 0 ≤ (x8_2 : Int) := of_decide_eq_true z32_0; have q157 : x8_2 < (l0.length : Int) := of_decide_eq_true z32_0; obtain ⟨ad157, e157, hx157_0, hx157_1⟩ := at_T78 HR0.out x8_2 p157 q157; obtain rfl : ad155 = ad157 := (by injection e157); replace hx157_0 := (HB.out.cell (World.block_lt_of_cell? w _ hx157_0)).trans hx157_0; replace hx157_1 := (HB.out.cell (World.block_lt_of_cell? w _ hx157_1)).trans hx157_1; replace p157 := eq_true p157; replace q157 := eq_true q157) | (go_at_call 68; (with_reducible refine (spec_l1In.calls ((rd_T78 l0 x8_2).f1) 0 5 true _ A20.out).mono ?_); rintro e w' ⟨rfl, ⟨nd, rfl⟩⟩; (try (rw [drewN_self wr]; generalize hq_ : World.drewN wr _ = wr; have n0_ : Aside0 (Kd.R (Kd.int .i64) 3 wr w.heap.size (fun _ => True) v148 y147) := ⟨by rw [← hq_]; exact (pR32_ HO_5.out)⟩; have n1_ : Aside0 (Kd.R Kd.bool 4 wr w.heap.size (fun _ => True) (.slice (some ⟨go8, 0, none⟩) x6_2.length co8) x6_2) := ⟨by rw [← hq_]; exact (pR32_ HO_6.out)⟩; have n2_ : Aside0 (Below w.heap.size w wr) := ⟨by rw [← hq_]; exact z32_1⟩; clear HO_5 HO_6 HB hq_; have HO_5 := n0_; have HO_6 := n1_; have HB := n2_; clear n0_ n1_ n2_)); have p159 : 0 ≤ (x8_2 : Int) := of_decide_eq_true z32_0; have q159 : x8_2 < (l0.length : Int) := of_decide_eq_true z32_0; obtain ⟨ad159, e159, hx159_0, hx159_1⟩ := at_T78 HR0.out x8_2 p159 q159; obtain rfl : ad155 = ad159 := (by injection e159); replace hx159_0 := (HB.out.cell (World.block_lt_of_cell? w _ hx159_0)).trans hx159_0; replace hx159_1 := (HB.out.cell (World.block_lt_of_cell? w _ hx159_1)).trans hx159_1; replace p159 := eq_true p159; replace q159 := eq_true q159; have p160 : 0 ≤ (((rd_T78 l0 x8_2).f0) : Int) := of_decide_eq_true z32_0; have q160 : ((rd_T78 l0 x8_2).f0) < (x6_2.length : Int) := of_decide_eq_true z32_0; obtain ⟨ad160, e160, hx160_0⟩ := Kd.at_bool (Kd.R_reads' HO_6.out).2.2 ((rd_T78 l0 x8_2).f0) p160 q160; (try rw [← Nbq24.out] at hx160_0); obtain rfl : (⟨go8, 0, none⟩ : Addr) = ad160 := (by injection e160); (first | simp only [add_plain] at hx160_0 | simp only [add_at] at hx160_0 | simp only [Addr.add, Nat.zero_add] at hx160_0 | skip); replace p160 := eq_true p160; replace q160 := eq_true q160; have p161 : 0 ≤ (x8_2 : Int) := of_decide_eq_true z32_0; have q161 : x8_2 < (l0.length : Int) := of_decide_eq_true z32_0; obtain ⟨ad161, e161, hx161_0, hx161_1⟩ := at_T78 HR0.out x8_2 p161 q161; obtain rfl : ad155 = ad161 := (by injection e161); replace hx161_0 := (HB.out.cell (World.block_lt_of_cell? w _ hx161_0)).trans hx161_0; replace hx161_1 := (HB.out.cell (World.block_lt_of_cell? w _ hx161_1)).trans hx161_1; replace p161 := eq_true p161; replace q161 := eq_true q161; have p28 : 0 ≤ (((rd_T78 l0 x8_2).f1) : Int) := of_decide_eq_true z32_0; have q28 : (((rd_T78 l0 x8_2).f1) : Int) < ((x6_2.length : Int) : Int) := of_decide_eq_true z32_0; obtain ⟨hx28_0, hf28_0⟩ := Kd.R_celln false HO_6.out (((rd_T78 l0 x8_2).f1) : Int) p28 q28; replace p28 := eq_true p28; replace q28 := eq_true q28; obtain ⟨hy29_, hz29_⟩ := Kd.R_celln false HO_6.out (((rd_T78 l0 x8_2).f1) : Int) (of_decide_eq_true z32_0) (of_decide_eq_true z32_0); have HP29 := Kd.R_putg HO_6.out (((rd_T78 l0 x8_2).f1) : Int) true) | ((with_reducible refine gate_store (t := 4) (p := 59) rfl ?_); refine store_event (t := 4) (p := 59) (v := ?vo_w30) (w1 := (wr.setCell ⟨go8, (((rd_T78 l0 x8_2).f1) : Int).toNat, none⟩ (.bool true))) ?hg ?ho ?hn ?hr ?_; (case ho => rfl); (case hg => rfl); (case hn => rfl); (case hr => first | (go_simp; done) | (go_simp; rfl)); intro w30 hw; have hg : wr.grownBy w30 (some go8) := (by rw [hw]; exact HP29.2); have hp_ : Kd.R Kd.bool 4 w30 w.heap.size (fun _ => True) (.slice (some ⟨go8, 0, none⟩) x6_2.length co8) y162 := (by rw [hw, Ny162.out]; exact HP29.1); clear HP29; have n0_ := Aside0.mk (Kd.R_over' (v := (.slice (some ⟨go8, 0, none⟩) x6_2.length co8)) (pR32_ HO_5.out) (Kd.R_typed HO_6.out) (by decide) hg); have n1_ := Aside0.mk (hp_); have n2_ := Aside0.mk ((by rw [hw]; exact bS_ (HB.out) GB8.out : Below w.heap.size w w30)); clear HO_5; clear HO_6; clear HB; have HO_5 := n0_; have HO_6 := n1_; have HB := n2_; clear n0_ n1_ n2_; clear hg hw hp_))
                                      (try simp only [← hl6_2])
                                      go_roundg k2
                                      case measure => have := HK1.out; have := HK2.out; omega
                                      case rel => exact ⟨(y162), (wrap64 (x8_2 + 1)), z32_3, H', ⟨by have := HK1.out; have := HK2.out; omega⟩, ⟨by (try simp only [hl6_1]); (try simp only [hl6_2]); (with_reducible repeat (first | apply Kd.R_alloc | apply Kd.R_drewN | apply Kd.R_drew)); exact HO_5.out⟩, ⟨by (try simp only [hl6_1]); (try simp only [hl6_2]); (with_reducible repeat (first | apply Kd.R_alloc | apply Kd.R_drewN | apply Kd.R_drew)); exact HO_6.out⟩, ⟨by repeat (first | (with_reducible first | exact HB.out | apply bA_ | apply bN_ | apply bD_) | exact HB.out)⟩⟩
                                    · rw [if_neg c27] at H
                                      exact absurd H (by simp)
                                  · rw [if_neg c26] at H
                                    exact absurd H (by simp)
                                · replace c25 := Bool.eq_false_iff.mpr c25
                                  subst c25
                                  have H1 : (spec_RolesUnder.l1 k2 l0 y147 x6_2 x7_1 (wrap64 (x8_2 + 1))) = some r := by rw [if_neg (show ¬ (false = true) by decide)] at H; exact H
                                  clear H
                                  have H := H1
                                  clear H1
                                  have H' := Aside0.mk H
                                  clear H
                                  have p155 : 0 ≤ (x8_2 : Int) := of_decide_eq_true z32_0
                                  have q155 : x8_2 < (l0.length : Int) := of_decide_eq_true z32_0
                                  obtain ⟨ad155, e155, hx155_0, hx155_1⟩ := at_T78 HR0.out x8_2 p155 q155
                                  cases e155
                                  replace hx155_0 := (HB.out.cell (World.block_lt_of_cell? w _ hx155_0)).trans hx155_0
                                  replace hx155_1 := (HB.out.cell (World.block_lt_of_cell? w _ hx155_1)).trans hx155_1
                                  replace p155 := eq_true p155
                                  replace q155 := eq_true q155
                                  go_wp2_with (first | ((with_reducible refine gate_callee (f := 68) rfl ?_); refine goesL_ (some 34) rfl rfl Try.func68 (by kernel_rfl) rfl #[.int .i64 ((rd_T78 l0 x8_2).f0), .int .i64 0, .int .i64 5] rfl z32_2 ?_; (with_reducible refine (spec_l1In.calls ((rd_T78 l0 x8_2).f0) 0 5 true _ A18.out).mono ?_); rintro e w' ⟨rfl, ⟨nd, rfl⟩⟩; refine ⟨_, rfl, ?_⟩; have p157 : 0 ≤ (x8_2 : Int) := of_decide_eq_true z32_0; have q157 : x8_2 < (l0.length : Int) := of_decide_eq_true z32_0; obtain ⟨ad157, e157, hx157_0, hx157_1⟩ := at_T78 HR0.out x8_2 p157 q157; obtain rfl : ad155 = ad157 := (by injection e157); replace hx157_0 := (HB.out.cell (World.block_lt_of_cell? w _ hx157_0)).trans hx157_0; replace hx157_1 := (HB.out.cell (World.block_lt_of_cell? w _ hx157_1)).trans hx157_1; replace p157 := eq_true p157; replace q157 := eq_true q157) | (go_at_call 68; (with_reducible refine (spec_l1In.calls ((rd_T78 l0 x8_2).f1) 0 5 true _ A20.out).mono ?_); rintro e w' ⟨rfl, ⟨nd, rfl⟩⟩; have p159 : 0 ≤ (x8_2 : Int) := of_decide_eq_true z32_0; have q159 : x8_2 < (l0.length : Int) := of_decide_eq_true z32_0; obtain ⟨ad159, e159, hx159_0, hx159_1⟩ := at_T78 HR0.out x8_2 p159 q159; obtain rfl : ad155 = ad159 := (by injection e159); replace hx159_0 := (HB.out.cell (World.block_lt_of_cell? w _ hx159_0)).trans hx159_0; replace hx159_1 := (HB.out.cell (World.block_lt_of_cell? w _ hx159_1)).trans hx159_1; replace p159 := eq_true p159; replace q159 := eq_true q159; have p160 : 0 ≤ (((rd_T78 l0 x8_2).f0) : Int) := of_decide_eq_true z32_0; have q160 : ((rd_T78 l0 x8_2).f0) < (x6_2.length : Int) := of_decide_eq_true z32_0; obtain ⟨ad160, e160, hx160_0⟩ := Kd.at_bool (Kd.R_reads' HO_6.out).2.2 ((rd_T78 l0 x8_2).f0) p160 q160; (try rw [← Nbq24.out] at hx160_0); obtain rfl : (⟨go8, 0, none⟩ : Addr) = ad160 := (by injection e160); (first | simp only [add_plain] at hx160_0 | simp only [add_at] at hx160_0 | simp only [Addr.add, Nat.zero_add] at hx160_0 | skip); replace p160 := eq_true p160; replace q160 := eq_true q160))
                                  (try simp only [← hl6_2])
                                  go_roundg k2
                                  case measure => have := HK1.out; have := HK2.out; omega
                                  case rel => exact ⟨(x6_2), (wrap64 (x8_2 + 1)), z32_3, H', ⟨by have := HK1.out; have := HK2.out; omega⟩, ⟨by (try simp only [hl6_1]); (try simp only [hl6_2]); (with_reducible repeat (first | apply Kd.R_alloc | apply Kd.R_drewN | apply Kd.R_drew)); exact HO_5.out⟩, ⟨by (try simp only [hl6_1]); (try simp only [hl6_2]); (with_reducible repeat (first | apply Kd.R_alloc | apply Kd.R_drewN | apply Kd.R_drew)); exact HO_6.out⟩, ⟨by repeat (first | (with_reducible first | exact HB.out | apply bA_ | apply bN_ | apply bD_) | exact HB.out)⟩⟩
                              · rw [if_neg c23] at H
                                exact absurd H (by simp)
                            · rw [if_neg c22] at H
                              exact absurd H (by simp)
                          · replace c21 := Bool.eq_false_iff.mpr c21
                            subst c21
                            have H1 : (spec_RolesUnder.l1 k2 l0 y147 x6_2 x7_1 (wrap64 (x8_2 + 1))) = some r := by rw [if_neg (show ¬ (false = true) by decide)] at H; exact H
                            clear H
                            have H := H1
                            clear H1
                            have H' := Aside0.mk H
                            clear H
                            have p155 : 0 ≤ (x8_2 : Int) := of_decide_eq_true z32_0
                            have q155 : x8_2 < (l0.length : Int) := of_decide_eq_true z32_0
                            obtain ⟨ad155, e155, hx155_0, hx155_1⟩ := at_T78 HR0.out x8_2 p155 q155
                            cases e155
                            replace hx155_0 := (HB.out.cell (World.block_lt_of_cell? w _ hx155_0)).trans hx155_0
                            replace hx155_1 := (HB.out.cell (World.block_lt_of_cell? w _ hx155_1)).trans hx155_1
                            replace p155 := eq_true p155
                            replace q155 := eq_true q155
                            go_wp2_with (first | ((with_reducible refine gate_callee (f := 68) rfl ?_); refine goesL_ (some 34) rfl rfl Try.func68 (by kernel_rfl) rfl #[.int .i64 ((rd_T78 l0 x8_2).f0), .int .i64 0, .int .i64 5] rfl z32_2 ?_; (with_reducible refine (spec_l1In.calls ((rd_T78 l0 x8_2).f0) 0 5 true _ A18.out).mono ?_); rintro e w' ⟨rfl, ⟨nd, rfl⟩⟩; refine ⟨_, rfl, ?_⟩; have p157 : 0 ≤ (x8_2 : Int) := of_decide_eq_true z32_0; have q157 : x8_2 < (l0.length : Int) := of_decide_eq_true z32_0; obtain ⟨ad157, e157, hx157_0, hx157_1⟩ := at_T78 HR0.out x8_2 p157 q157; obtain rfl : ad155 = ad157 := (by injection e157); replace hx157_0 := (HB.out.cell (World.block_lt_of_cell? w _ hx157_0)).trans hx157_0; replace hx157_1 := (HB.out.cell (World.block_lt_of_cell? w _ hx157_1)).trans hx157_1; replace p157 := eq_true p157; replace q157 := eq_true q157) | (go_at_call 68; (with_reducible refine (spec_l1In.calls ((rd_T78 l0 x8_2).f1) 0 5 false _ A20.out).mono ?_); rintro e w' ⟨rfl, ⟨nd, rfl⟩⟩))
                            (try simp only [← hl6_2])
                            go_roundg k2
                            case measure => have := HK1.out; have := HK2.out; omega
                            case rel => exact ⟨(x6_2), (wrap64 (x8_2 + 1)), z32_3, H', ⟨by have := HK1.out; have := HK2.out; omega⟩, ⟨by (try simp only [hl6_1]); (try simp only [hl6_2]); (with_reducible repeat (first | apply Kd.R_alloc | apply Kd.R_drewN | apply Kd.R_drew)); exact HO_5.out⟩, ⟨by (try simp only [hl6_1]); (try simp only [hl6_2]); (with_reducible repeat (first | apply Kd.R_alloc | apply Kd.R_drewN | apply Kd.R_drew)); exact HO_6.out⟩, ⟨by repeat (first | (with_reducible first | exact HB.out | apply bA_ | apply bN_ | apply bD_) | exact HB.out)⟩⟩
                        · replace c19 := Bool.eq_false_iff.mpr c19
                          subst c19
                          have H1 : (spec_RolesUnder.l1 k2 l0 y147 x6_2 x7_1 (wrap64 (x8_2 + 1))) = some r := by rw [if_neg (show ¬ (false = true) by decide)] at H; exact H
                          clear H
                          have H := H1
                          clear H1
                          have H' := Aside0.mk H
                          clear H
                          have p155 : 0 ≤ (x8_2 : Int) := of_decide_eq_true z32_0
                          have q155 : x8_2 < (l0.length : Int) := of_decide_eq_true z32_0
                          obtain ⟨ad155, e155, hx155_0, hx155_1⟩ := at_T78 HR0.out x8_2 p155 q155
                          cases e155
                          replace hx155_0 := (HB.out.cell (World.block_lt_of_cell? w _ hx155_0)).trans hx155_0
                          replace hx155_1 := (HB.out.cell (World.block_lt_of_cell? w _ hx155_1)).trans hx155_1
                          replace p155 := eq_true p155
                          replace q155 := eq_true q155
                          go_wp2_with (first | ((with_reducible refine gate_callee (f := 68) rfl ?_); refine goesL_ (some 34) rfl rfl Try.func68 (by kernel_rfl) rfl #[.int .i64 ((rd_T78 l0 x8_2).f0), .int .i64 0, .int .i64 5] rfl z32_2 ?_; (with_reducible refine (spec_l1In.calls ((rd_T78 l0 x8_2).f0) 0 5 false _ A18.out).mono ?_); rintro e w' ⟨rfl, ⟨nd, rfl⟩⟩; refine ⟨_, rfl, ?_⟩))
                          (try simp only [← hl6_2])
                          go_roundg k2
                          case measure => have := HK1.out; have := HK2.out; omega
                          case rel => exact ⟨(x6_2), (wrap64 (x8_2 + 1)), z32_3, H', ⟨by have := HK1.out; have := HK2.out; omega⟩, ⟨by (try simp only [hl6_1]); (try simp only [hl6_2]); (with_reducible repeat (first | apply Kd.R_alloc | apply Kd.R_drewN | apply Kd.R_drew)); exact HO_5.out⟩, ⟨by (try simp only [hl6_1]); (try simp only [hl6_2]); (with_reducible repeat (first | apply Kd.R_alloc | apply Kd.R_drewN | apply Kd.R_drew)); exact HO_6.out⟩, ⟨by repeat (first | (with_reducible first | exact HB.out | apply bA_ | apply bN_ | apply bD_) | exact HB.out)⟩⟩
                      · rw [if_neg c17] at H
                        exact absurd H (by simp)
                    · rw [if_neg c16] at H
                      have c16b0 : decide (x8_2 < (l0.length : Int)) = false := decide_eq_false c16
                      clear c16
                      have H' := Aside0.mk H
                      clear H
                      go_wp2
                      (try simp only [← hl6_1, ← hl6_2])
                      go_roundg k2
                      case measure => have := HK1.out; have := HK2.out; omega
                      case rel => exact ⟨(x6_2), (wrap64 (x7_1 + 1)), z32_3, H', ⟨by have := HK1.out; have := HK2.out; omega⟩, ⟨by (try simp only [hl6_1]); (try simp only [hl6_2]); (with_reducible repeat (first | apply Kd.R_alloc | apply Kd.R_drewN | apply Kd.R_drew)); exact HO_5.out⟩, ⟨by (try simp only [hl6_1]); (try simp only [hl6_2]); (with_reducible repeat (first | apply Kd.R_alloc | apply Kd.R_drewN | apply Kd.R_drew)); exact HO_6.out⟩, ⟨by repeat (first | (with_reducible first | exact HB.out | apply bA_ | apply bN_ | apply bD_) | exact HB.out)⟩⟩
              · rw [if_neg c15] at H
                have c15b0 : decide (x7_1 ≤ 5) = false := decide_eq_false c15
                clear c15
                have H' := Aside0.mk H
                clear H
                go_wp2
                go_loopg [5, 9] k1 (fun kq v5 v9 w' => ∃ (x5_2 : List Int) (x9_2 : Int), v9 = .int .i64 x9_2 ∧ Aside0 (spec_RolesUnder.l2 kq x5_2 x6_1 x9_2 = some r) ∧ Aside0 (kq ≤ k1) ∧ Aside0 (Kd.R (Kd.int .i64) 3 w' w.heap.size (fun _ => True) v5 x5_2) ∧ Aside0 (Kd.R Kd.bool 4 w' w.heap.size (fun _ => True) (.slice (some ⟨go8, 0, none⟩) x6_1.length co8) x6_1) ∧ Aside0 (Below w.heap.size w w'))
                case atStart => exact ⟨(y147), (0), z32_3, H', ⟨Nat.le_refl _⟩, ⟨by (try simp only [hl6_1]); (with_reducible repeat (first | apply Kd.R_alloc | apply Kd.R_drewN | apply Kd.R_drew)); exact HO_5.out⟩, ⟨by (try simp only [hl6_1]); (with_reducible repeat (first | apply Kd.R_alloc | apply Kd.R_drewN | apply Kd.R_drew)); exact HO_6.out⟩, ⟨by repeat (first | (with_reducible first | exact HB.out | apply bA_ | apply bN_ | apply bD_) | exact HB.out)⟩⟩
                case round =>
                  clear H'
                  try clear c1
                  try clear p1
                  try clear q1
                  try clear hx1
                  try clear c2
                  try clear p2
                  try clear q2
                  try clear hx2
                  try clear hf2
                  try clear c3
                  try clear c4
                  try clear c5
                  try clear c5b0
                  try clear c5b1
                  try clear c6
                  try clear c6b0
                  try clear p6
                  try clear c7
                  try clear c7b0
                  try clear p8
                  try clear q8
                  try clear hx8
                  try clear hf8
                  try clear c15
                  try clear c15b0
                  try clear p15
                  try clear q15
                  try clear hx15
                  try clear c16
                  try clear c16b0
                  try clear p16
                  try clear q16
                  try clear hx16
                  try clear c17
                  try clear c17b0
                  try clear c19
                  try clear c21
                  try clear c22
                  try clear c22b0
                  try clear c23
                  try clear c23b0
                  try clear q24
                  try clear c25
                  try clear c26
                  try clear c26b0
                  try clear c27
                  try clear c27b0
                  try clear p28
                  try clear q28
                  try clear hx28
                  try clear hf28
                  try clear hx155_0
                  try clear hx155_1
                  try clear hx157_0
                  try clear hx157_1
                  try clear hx159_0
                  try clear hx159_1
                  try clear hx160_0
                  try clear hx161_0
                  try clear hx161_1
                  try clear hx28_0
                  try clear hx8_0
                  try clear p155
                  try clear p157
                  try clear p159
                  try clear p160
                  try clear p161
                  try clear p2
                  try clear p28
                  try clear p8
                  try clear q155
                  try clear q157
                  try clear q159
                  try clear q160
                  try clear q161
                  try clear q28
                  try clear q8
                  obtain ⟨x5_2, x9_2, rfl, HA, HK2, HO_5, HO_6, HB⟩ := hrel
                  cases gk with
                  | zero => exact absurd HA.out (by simp [spec_RolesUnder.l2])
                  | succ k2 =>
                    have H := HA.out
                    clear HA
                    simp only [spec_RolesUnder.l2] at H
                    by_cases c31 : x9_2 ≤ 5
                    · rw [if_pos c31] at H
                      have c31b0 : decide (x9_2 ≤ 5) = true := decide_eq_true c31
                      clear c31
                      by_cases c32 : 0 ≤ x9_2
                      · rw [if_pos c32] at H
                        have c32b0 : decide (0 ≤ x9_2) = true := decide_eq_true c32
                        clear c32
                        by_cases c33 : x9_2 < (x6_1.length : Int)
                        · rw [if_pos c33] at H
                          have c33b0 : decide (x9_2 < (x6_1.length : Int)) = true := decide_eq_true c33
                          clear c33
                          obtain ⟨bq34, hbq34⟩ : ∃ b_ : Bool, b_ = (rdOf false x6_1 x9_2) := ⟨_, rfl⟩
                          replace H : (if bq34 = true then (if x5_2.length < 17592186044416 then (spec_RolesUnder.l2 k2 (x5_2 ++ [x9_2]) x6_1 (wrap64 (x9_2 + 1))) else (none)) else (spec_RolesUnder.l2 k2 x5_2 x6_1 (wrap64 (x9_2 + 1)))) = some r := by rw [← hbq34] at H; exact H
                          have Nbq34 := Aside0.mk hbq34
                          clear hbq34
                          by_cases c35 : bq34 = true
                          · subst c35
                            have H1 : (if x5_2.length < 17592186044416 then (spec_RolesUnder.l2 k2 (x5_2 ++ [x9_2]) x6_1 (wrap64 (x9_2 + 1))) else (none)) = some r := by rw [if_pos rfl] at H; exact H
                            clear H
                            have H := H1
                            clear H1
                            by_cases c36 : x5_2.length < 17592186044416
                            · rw [if_pos c36] at H
                              have LMc36 := Aside0.mk c36
                              clear c36
                              obtain ⟨y164, hy164⟩ : ∃ y_ : List Int, y_ = (x5_2 ++ [x9_2]) := ⟨_, rfl⟩
                              replace H : (spec_RolesUnder.l2 k2 y164 x6_1 (wrap64 (x9_2 + 1))) = some r := by first | (rw [hy164]; with_reducible exact H) | (have H2_ := (Option.bind_some _ _).symm.trans H; rw [hy164]; with_reducible exact H2_) | (have H2_ := (Option.bind_some _ _).symm.trans H; with_reducible exact H2_) | with_reducible exact H | (rw [hy164]; exact H) | exact H
                              have Ny164 := Aside0.mk hy164
                              clear hy164
                              have H' := Aside0.mk H
                              clear H
                              have p163 : 0 ≤ (x9_2 : Int) := of_decide_eq_true z32_0
                              have q163 : x9_2 < (x6_1.length : Int) := of_decide_eq_true z32_0
                              obtain ⟨ad163, e163, hx163_0⟩ := Kd.at_bool (Kd.R_reads' HO_6.out).2.2 x9_2 p163 q163
                              (try rw [← Nbq34.out] at hx163_0)
                              obtain rfl : (⟨go8, 0, none⟩ : Addr) = ad163 := (by injection e163)
                              (first | simp only [add_plain] at hx163_0 | simp only [add_at] at hx163_0 | simp only [Addr.add, Nat.zero_add] at hx163_0 | skip)
                              replace p163 := eq_true p163
                              replace q163 := eq_true q163
                              go_wp2_with (first | ((with_reducible refine gate_builtin (b := .append) (xs := #[.tmp 68, .tmp 70]) rfl ?_); at_builtin; refine Kd.R_append (Kd.int .i64) (w0 := w) w.heap.size rfl (.tmp 68) (.tmp 70) 26 3 (.int .i64 0) 8 rfl Try.underlying26 info3 rfl (by decide) (by omega) u5 x5_2 x9_2 [.int .i64 x9_2] (fun _ => True) (fun _ => False) rfl rfl ?aP (fun _ hk => hk.elim) ?aF ?aO ?aB ?aS ?aL ?_; (case aP => exact rfl); (case aB => exact z32_1); (case aF => exact (fun _ _ => trivial)); (case aO => exact (pR32_ HO_5.out)); (case aS => exact (below_size z32_1)); (case aL => have := LMc36.out; omega); intro v165 w37 ho hb hg hat; rw [← Ny164.out] at ho; have n0_ := Aside0.mk (Kd.R_over' (pR32_ HO_6.out) (Kd.R_typed (pR32_ HO_5.out)) (by decide) hg); have n1_ := Aside0.mk (hb); have n2_ := Aside0.mk (ho); clear HO_6; clear HB; clear HO_5; have HO_6 := n0_; have HB := n1_; have HO166 := n2_; clear n0_ n1_ n2_; clear ho hb hg hat))
                              go_roundg k2
                              case measure => have := HK1.out; have := HK2.out; omega
                              case rel => exact ⟨(y164), (wrap64 (x9_2 + 1)), z32_3, H', ⟨by have := HK1.out; have := HK2.out; omega⟩, ⟨by (try simp only [hl6_1]); (with_reducible repeat (first | apply Kd.R_alloc | apply Kd.R_drewN | apply Kd.R_drew)); exact HO166.out⟩, ⟨by (try simp only [hl6_1]); (with_reducible repeat (first | apply Kd.R_alloc | apply Kd.R_drewN | apply Kd.R_drew)); exact HO_6.out⟩, ⟨by repeat (first | (with_reducible first | exact HB.out | apply bA_ | apply bN_ | apply bD_) | exact HB.out)⟩⟩
                            · rw [if_neg c36] at H
                              exact absurd H (by simp)
                          · replace c35 := Bool.eq_false_iff.mpr c35
                            subst c35
                            have H1 : (spec_RolesUnder.l2 k2 x5_2 x6_1 (wrap64 (x9_2 + 1))) = some r := by rw [if_neg (show ¬ (false = true) by decide)] at H; exact H
                            clear H
                            have H := H1
                            clear H1
                            have H' := Aside0.mk H
                            clear H
                            have p163 : 0 ≤ (x9_2 : Int) := of_decide_eq_true z32_0
                            have q163 : x9_2 < (x6_1.length : Int) := of_decide_eq_true z32_0
                            obtain ⟨ad163, e163, hx163_0⟩ := Kd.at_bool (Kd.R_reads' HO_6.out).2.2 x9_2 p163 q163
                            (try rw [← Nbq34.out] at hx163_0)
                            obtain rfl : (⟨go8, 0, none⟩ : Addr) = ad163 := (by injection e163)
                            (first | simp only [add_plain] at hx163_0 | simp only [add_at] at hx163_0 | simp only [Addr.add, Nat.zero_add] at hx163_0 | skip)
                            replace p163 := eq_true p163
                            replace q163 := eq_true q163
                            go_wp2
                            go_roundg k2
                            case measure => have := HK1.out; have := HK2.out; omega
                            case rel => exact ⟨(x5_2), (wrap64 (x9_2 + 1)), z32_3, H', ⟨by have := HK1.out; have := HK2.out; omega⟩, ⟨by (try simp only [hl6_1]); (with_reducible repeat (first | apply Kd.R_alloc | apply Kd.R_drewN | apply Kd.R_drew)); exact HO_5.out⟩, ⟨by (try simp only [hl6_1]); (with_reducible repeat (first | apply Kd.R_alloc | apply Kd.R_drewN | apply Kd.R_drew)); exact HO_6.out⟩, ⟨by repeat (first | (with_reducible first | exact HB.out | apply bA_ | apply bN_ | apply bD_) | exact HB.out)⟩⟩
                        · rw [if_neg c33] at H
                          exact absurd H (by simp)
                      · rw [if_neg c32] at H
                        exact absurd H (by simp)
                    · rw [if_neg c31] at H
                      have c31b0 : decide (x9_2 ≤ 5) = false := decide_eq_false c31
                      clear c31
                      obtain rfl := Option.some.inj H
                      go_wp2
                      go_ret
                      exact ⟨_, by first | rfl | (simp [errW_none, errW_some] <;> rfl) | (simp [*, errW_none, errW_some] <;> rfl), by (with_reducible repeat (first | apply Kd.R_alloc | apply Kd.R_drewN | apply Kd.R_drew)); exact HO_5.out, by repeat (first | (with_reducible first | exact HB.out | apply bA_ | apply bN_ | apply bD_) | exact HB.out)⟩
        · rw [if_neg c7] at H
          exact absurd H (by simp)
      · rw [if_neg c6] at H
        exact absurd H (by simp)
    · rw [if_neg c5] at H
      exact absurd H (by simp)
  · replace c4 := Bool.eq_false_iff.mpr c4
    subst c4
    have H1 : (some y147) = some r := by rw [if_neg (show ¬ (false = true) by decide)] at H; exact H
    clear H
    have H := H1
    clear H1
    obtain rfl := Option.some.inj H
    go_enter Try.func32, Try.ntmps32
    go_wp2_with (first | ((with_reducible refine gate_dst (N := 10) rfl ?_); refine Kd.R_lit (Kd.int .i64) _ 3 ?hg (N := 10) ?hd (xs := ([] : List Int)) (inner := []) (ok := fun _ => True) (okp := fun _ => True) ?hr ?hp (fun _ hk => hk) trivial (Below.refl _ _) (Nat.le_refl _) (by simp) ?_; (case hd => rfl); (case hg => rfl); (case hr => first | (go_simp; done) | (go_simp; rfl)); (case hp => exact (Reps.none _ _)); intro v148 w38 ho39 hb hg_ hnew_; clear hg_ hnew_; (first | rw [← Ny147.out] at ho39 | (simp only [Int.reduceToNat] at ho39; rw [← Ny147.out] at ho39)); have n0_ := Aside0.mk (Kd.R_lower ho39 (below_size z32_1)); have n1_ := Aside0.mk (below_step z32_1 hb); clear HB; have HO149 := n0_; have HB := n1_; clear n0_ n1_; clear hb ho39) | ((with_reducible refine gate_callee (f := 68) rfl ?_); refine goesL_ (some 12) rfl rfl Try.func68 (by kernel_rfl) rfl #[.int .i64 a1, .int .i64 0, .int .i64 5] rfl z32_2 ?_; (with_reducible refine (spec_l1In.calls a1 0 5 false _ A3.out).mono ?_); rintro e w' ⟨rfl, ⟨nd, rfl⟩⟩; refine ⟨_, rfl, ?_⟩))
    go_ret
    exact ⟨_, by first | rfl | (simp [errW_none, errW_some] <;> rfl) | (simp [*, errW_none, errW_some] <;> rfl), by (with_reducible repeat (first | apply Kd.R_alloc | apply Kd.R_drewN | apply Kd.R_drew)); exact HO149.out, by repeat (first | (with_reducible first | exact HB.out | apply bA_ | apply bN_ | apply bD_) | exact HB.out)⟩

/-! ### laws_big: function 43 -/
def laws_big.f (l0 : List Int) : Option (Bool) := some (decide ((l0.length : Int) > 1048576))
set_option maxHeartbeats 8000000 in
set_option maxRecDepth 100000 in
theorem laws_big.calls (A0 : Option Addr) (c0 : Nat) (l0 : List Int) (r : Bool) (w : World) (hr0 : Kd.C (Kd.int .u8) w A0 l0.length l0) (hc0 : l0.length ≤ c0) (h : laws_big.f l0 = some r) :
    Calls Try.prog 43 #[.slice A0 l0.length c0] w fun e w' => e = .returned (.bool r) ∧ Drawn0 w w' := by
  have HR0 := Aside0.mk hr0
  have HC0 := Aside0.mk hc0
  clear hr0 hc0
  have H : (some (decide ((l0.length : Int) > 1048576))) = some r := h
  clear h
  obtain rfl := Option.some.inj H
  go_enter Try.func43, Try.ntmps43
  go_wp2
  go_ret
  exact ⟨by first | rfl | (simp; done) | (simp [*]; done), by repeat (first | exact Drawn0.refl _ | apply Drawn0.step)⟩

/-! ### slices_Index_int_int: function 106 -/
def slices_Index_int_int.l0 : Nat → List Int → Int → Int → Int → Option (Int)
  | 0, _, _, _, _ => none
  | k + 1, x0, x1, x7, x8 => if x8 < x7 then (if 0 ≤ x8 then (if x8 < (x0.length : Int) then (if x1 = (rd x0 x8) then (some x8) else (slices_Index_int_int.l0 k x0 x1 x7 (wrap64 (x8 + 1)))) else (none)) else (none)) else (some (-1))
def slices_Index_int_int.f (k : Nat) (l0 : List Int) (a1 : Int) : Option (Int) := slices_Index_int_int.l0 k l0 a1 (l0.length : Int) 0
theorem slices_Index_int_int.mono_l : ∀ k, (∀ y0 y1 y2 y3, LeO (slices_Index_int_int.l0 k y0 y1 y2 y3) (slices_Index_int_int.l0 (k + 1) y0 y1 y2 y3))
  | 0 => fun _ _ _ _ r h => by simp [slices_Index_int_int.l0] at h
  | k + 1 => by
    have ih0 := slices_Index_int_int.mono_l k
    · intro y0 y1 y2 y3
      unfold slices_Index_int_int.l0
      repeat' first
      | (with_reducible exact ih0 _ _ _ _)
      | (with_reducible exact LeO.refl _)
      | (with_reducible exact LeO.none _)
      | (with_reducible refine LeO.ite ?_ ?_)
      | (with_reducible refine LeO.bind ?_ (fun _ => ?_))
      | exact ih0 _ _ _ _
      | exact LeO.none _
      | refine LeO.ite ?_ ?_
      | refine LeO.bind ?_ (fun _ => ?_)
theorem slices_Index_int_int.mono : ∀ a0 a1 k, LeO (slices_Index_int_int.f k a0 a1) (slices_Index_int_int.f (k + 1) a0 a1) := by
  intro a0 a1 k
  have ih0 := slices_Index_int_int.mono_l k
  unfold slices_Index_int_int.f
  repeat' first
      | (with_reducible exact ih0 _ _ _ _)
      | (with_reducible exact LeO.refl _)
      | (with_reducible exact LeO.none _)
      | (with_reducible refine LeO.ite ?_ ?_)
      | (with_reducible refine LeO.bind ?_ (fun _ => ?_))
      | exact ih0 _ _ _ _
      | exact LeO.none _
      | refine LeO.ite ?_ ?_
      | refine LeO.bind ?_ (fun _ => ?_)
set_option maxHeartbeats 8000000 in
set_option maxRecDepth 100000 in
theorem slices_Index_int_int.calls (k : Nat) (A0 : Option Addr) (c0 : Nat) (l0 : List Int) (a1 : Int) (r : Int) (w : World) (hr0 : Kd.C (Kd.int .i64) w A0 l0.length l0) (hc0 : l0.length ≤ c0) (h : slices_Index_int_int.f k l0 a1 = some r) :
    Calls Try.prog 106 #[.slice A0 l0.length c0, .int .i64 a1] w fun e w' => e = .returned (.int .i64 r) ∧ Drawn0 w w' := by
  have HR0 := Aside0.mk hr0
  have HC0 := Aside0.mk hc0
  clear hr0 hc0
  have H : (slices_Index_int_int.l0 k l0 a1 (l0.length : Int) 0) = some r := h
  clear h
  have H' := Aside0.mk H
  clear H
  go_enter Try.func106, Try.ntmps106
  go_wp2
  go_loopg [8] k (fun kq v8 w' => ∃ (x8_1 : Int), v8 = .int .i64 x8_1 ∧ Aside0 (slices_Index_int_int.l0 kq l0 a1 (l0.length : Int) x8_1 = some r) ∧ Aside0 (kq ≤ k) ∧ Drawn0 w w')
  case atStart => exact ⟨(0), (by first | rfl | (simp; done) | (simp [*]; done)), H', ⟨Nat.le_refl _⟩, by repeat (first | exact Drawn0.refl _ | apply Drawn0.step)⟩
  case round =>
    clear H'
    try clear c1
    try clear p2
    obtain ⟨x8_1, rfl, HA, HK1, ⟨m1, rfl⟩⟩ := hrel
    cases gk with
    | zero => exact absurd HA.out (by simp [slices_Index_int_int.l0])
    | succ k1 =>
      have H := HA.out
      clear HA
      simp only [slices_Index_int_int.l0] at H
      by_cases c3 : x8_1 < (l0.length : Int)
      · rw [if_pos c3] at H
        have c3b0 : decide (x8_1 < (l0.length : Int)) = true := decide_eq_true c3
        clear c3
        by_cases c4 : 0 ≤ x8_1
        · rw [if_pos c4] at H
          have c4b0 : decide (0 ≤ x8_1) = true := decide_eq_true c4
          clear c4
          by_cases c5 : x8_1 < (l0.length : Int)
          · rw [if_pos c5] at H
            have c5b0 : decide (x8_1 < (l0.length : Int)) = true := decide_eq_true c5
            clear c5
            by_cases c6 : a1 = (rd l0 x8_1)
            · rw [if_pos c6] at H
              have c6b0 : (a1 == (rd l0 x8_1)) = true := beq_iff_eq.mpr c6
              have c6b1 : (a1 != (rd l0 x8_1)) = false := bne_eq_false_iff_eq.mpr c6
              clear c6
              obtain rfl := Option.some.inj H
              have p167 : 0 ≤ (x8_1 : Int) := of_decide_eq_true (by first | (with_reducible assumption) | assumption)
              have q167 : x8_1 < (l0.length : Int) := of_decide_eq_true (by first | (with_reducible assumption) | assumption)
              obtain ⟨ad167, e167, hx167_0⟩ := Kd.at_int HR0.out x8_1 p167 q167
              cases e167
              replace p167 := eq_true p167
              replace q167 := eq_true q167
              go_wp2
              go_ret
              exact ⟨by first | rfl | (simp; done) | (simp [*]; done), by repeat (first | exact Drawn0.refl _ | apply Drawn0.step)⟩
            · rw [if_neg c6] at H
              have c6b0 : (a1 == (rd l0 x8_1)) = false := beq_eq_false_iff_ne.mpr c6
              have c6b1 : (a1 != (rd l0 x8_1)) = true := bne_iff_ne.mpr c6
              have H' := Aside0.mk H
              clear H
              have p167 : 0 ≤ (x8_1 : Int) := of_decide_eq_true (by first | (with_reducible assumption) | assumption)
              have q167 : x8_1 < (l0.length : Int) := of_decide_eq_true (by first | (with_reducible assumption) | assumption)
              obtain ⟨ad167, e167, hx167_0⟩ := Kd.at_int HR0.out x8_1 p167 q167
              cases e167
              replace p167 := eq_true p167
              replace q167 := eq_true q167
              go_wp2
              go_roundg k1
              case measure => have := HK1.out; omega
              case rel => exact ⟨(wrap64 (x8_1 + 1)), (by first | rfl | (simp; done) | (simp [*]; done)), H', ⟨by have := HK1.out; omega⟩, by repeat (first | exact Drawn0.refl _ | apply Drawn0.step)⟩
          · rw [if_neg c5] at H
            exact absurd H (by simp)
        · rw [if_neg c4] at H
          exact absurd H (by simp)
      · rw [if_neg c3] at H
        have c3b0 : decide (x8_1 < (l0.length : Int)) = false := decide_eq_false c3
        clear c3
        obtain rfl := Option.some.inj H
        go_wp2
        go_ret
        exact ⟨by first | rfl | (simp; done) | (simp [*]; done), by repeat (first | exact Drawn0.refl _ | apply Drawn0.step)⟩

/-! ### slices_Contains_int_int: function 92 -/
def slices_Contains_int_int.f (k : Nat) (l0 : List Int) (a1 : Int) : Option (Bool) := (slices_Index_int_int.f k l0 a1).bind fun t168 => (some (decide (t168 ≥ 0)))
theorem slices_Contains_int_int.mono : ∀ a0 a1 k, LeO (slices_Contains_int_int.f k a0 a1) (slices_Contains_int_int.f (k + 1) a0 a1) := by
  intro a0 a1 k
  unfold slices_Contains_int_int.f
  repeat' first
      | (with_reducible exact slices_Index_int_int.mono _ _ _)
      | (with_reducible exact LeO.refl _)
      | (with_reducible exact LeO.none _)
      | (with_reducible refine LeO.ite ?_ ?_)
      | (with_reducible refine LeO.bind ?_ (fun _ => ?_))
      | exact slices_Index_int_int.mono _ _ _
      | exact LeO.none _
      | refine LeO.ite ?_ ?_
      | refine LeO.bind ?_ (fun _ => ?_)
set_option maxHeartbeats 8000000 in
set_option maxRecDepth 100000 in
theorem slices_Contains_int_int.calls (k : Nat) (A0 : Option Addr) (c0 : Nat) (l0 : List Int) (a1 : Int) (r : Bool) (w : World) (hr0 : Kd.C (Kd.int .i64) w A0 l0.length l0) (hc0 : l0.length ≤ c0) (h : slices_Contains_int_int.f k l0 a1 = some r) :
    Calls Try.prog 92 #[.slice A0 l0.length c0, .int .i64 a1] w fun e w' => e = .returned (.bool r) ∧ Drawn0 w w' := by
  have HR0 := Aside0.mk hr0
  have HC0 := Aside0.mk hc0
  clear hr0 hc0
  have H : ((slices_Index_int_int.f k l0 a1).bind fun t168 => (some (decide (t168 ≥ 0)))) = some r := h
  clear h
  replace H := Option.bind_eq_some_iff.mp H
  obtain ⟨t168, A30, H⟩ := H
  replace H : (some (decide (t168 ≥ 0))) = some r := H
  have A3 := Aside0.mk A30
  clear A30
  obtain rfl := Option.some.inj H
  go_enter Try.func92, Try.ntmps92
  go_wp2_with (first | ((with_reducible refine gate_callee (f := 106) rfl ?_); refine goesL_ (some 7) rfl rfl Try.func106 (by kernel_rfl) rfl #[.slice A0 l0.length c0, .int .i64 a1] rfl (by (try simp only [List.map_toArray, List.map_cons, List.map_nil]); first | done | rfl | (simp only [List.length_drop, List.length_take]; rfl)) ?_; (with_reducible refine (slices_Index_int_int.calls k _ _ l0 a1 t168 _ ?side1 ?side2 A3.out).mono ?_); (case side1 => repeat (first | exact HR0.out | (with_reducible refine Kd.C_alloc ?_ _) | (with_reducible refine Kd.C_drewN ?_ _) | (with_reducible refine Kd.C_drew ?_))); (case side2 => exact HC0.out); rintro e w' ⟨rfl, ⟨nd, rfl⟩⟩; refine ⟨_, rfl, ?_⟩))
  go_ret
  exact ⟨by first | rfl | (simp; done) | (simp [*]; done), by repeat (first | exact Drawn0.refl _ | apply Drawn0.step)⟩

/-! ### impl_HasRole: function 57 -/
def impl_HasRole.f (k : Nat) (l0 : List (S78)) (l1 : List (S75)) (a2 : Int) (a3 : Int) (a4 : Int) (a5 : Int) : Option (Bool) := (impl_RolesOf.f k l0 l1 a2 a4 a5).bind fun t169 => ((slices_Contains_int_int.f k t169 a3).bind fun t172 => (some t172))
theorem impl_HasRole.mono : ∀ a0 a1 a2 a3 a4 a5 k, LeO (impl_HasRole.f k a0 a1 a2 a3 a4 a5) (impl_HasRole.f (k + 1) a0 a1 a2 a3 a4 a5) := by
  intro a0 a1 a2 a3 a4 a5 k
  unfold impl_HasRole.f
  repeat' first
      | (with_reducible exact impl_RolesOf.mono _ _ _ _ _ _)
      | (with_reducible exact slices_Contains_int_int.mono _ _ _)
      | (with_reducible exact LeO.refl _)
      | (with_reducible exact LeO.none _)
      | (with_reducible refine LeO.ite ?_ ?_)
      | (with_reducible refine LeO.bind ?_ (fun _ => ?_))
      | exact impl_RolesOf.mono _ _ _ _ _ _
      | exact slices_Contains_int_int.mono _ _ _
      | exact LeO.none _
      | refine LeO.ite ?_ ?_
      | refine LeO.bind ?_ (fun _ => ?_)
set_option maxHeartbeats 8000000 in
set_option maxRecDepth 100000 in
theorem impl_HasRole.calls (k : Nat) (A0 : Option Addr) (c0 : Nat) (l0 : List (S78)) (A1 : Option Addr) (c1 : Nat) (l1 : List (S75)) (a2 : Int) (a3 : Int) (a4 : Int) (a5 : Int) (r : Bool) (w : World) (hr0 : Kd.C k78 w A0 l0.length l0) (hc0 : l0.length ≤ c0) (hr1 : Kd.C k75 w A1 l1.length l1) (hc1 : l1.length ≤ c1) (h : impl_HasRole.f k l0 l1 a2 a3 a4 a5 = some r) :
    Calls Try.prog 57 #[.slice A0 l0.length c0, .slice A1 l1.length c1, .int .i64 a2, .int .i64 a3, .int .i64 a4, .int .i64 a5] w fun e w' => e = .returned (.bool r) ∧ Below w.heap.size w w' := by
  have HR0 := Aside0.mk hr0
  have HC0 := Aside0.mk hc0
  clear hr0 hc0
  have HR1 := Aside0.mk hr1
  have HC1 := Aside0.mk hc1
  clear hr1 hc1
  have HB := Aside0.mk (Below.refl w.heap.size w)
  have H : ((impl_RolesOf.f k l0 l1 a2 a4 a5).bind fun t169 => ((slices_Contains_int_int.f k t169 a3).bind fun t172 => (some t172))) = some r := h
  clear h
  replace H := Option.bind_eq_some_iff.mp H
  obtain ⟨t169, A70, H⟩ := H
  replace H : ((slices_Contains_int_int.f k t169 a3).bind fun t172 => (some t172)) = some r := H
  have A7 := Aside0.mk A70
  clear A70
  replace H := Option.bind_eq_some_iff.mp H
  obtain ⟨t172, A80, H⟩ := H
  replace H : (some t172) = some r := H
  have A8 := Aside0.mk A80
  clear A80
  obtain rfl := Option.some.inj H
  go_enter Try.func57, Try.ntmps57
  go_wp2_with (first | ((with_reducible refine gate_callee (f := 20) rfl ?_); refine goesL_ (some 18) rfl rfl Try.func20 (by kernel_rfl) rfl #[.slice A0 l0.length c0, .slice A1 l1.length c1, .int .i64 a2, .int .i64 a4, .int .i64 a5] rfl (by (try simp only [List.map_toArray, List.map_cons, List.map_nil]); first | done | rfl | (simp only [List.length_drop, List.length_take]; rfl)) ?_; (with_reducible refine (impl_RolesOf.calls k _ _ l0 _ _ l1 a2 a4 a5 t169 _ ?side1 ?side2 ?side3 ?side4 A7.out).mono ?_); (case side1 => repeat (first | exact HR0.out | (with_reducible refine Kd.C_alloc ?_ _) | (with_reducible refine Kd.C_drewN ?_ _) | (with_reducible refine Kd.C_drew ?_))); (case side2 => exact HC0.out); (case side3 => repeat (first | exact HR1.out | (with_reducible refine Kd.C_alloc ?_ _) | (with_reducible refine Kd.C_drewN ?_ _) | (with_reducible refine Kd.C_drew ?_))); (case side4 => exact HC1.out); rintro e w9 ⟨v170, rfl, ho0, hb⟩; refine ⟨_, rfl, ?_⟩; have n0_ := Aside0.mk (Kd.R_lower ho0 (below_size (by repeat (first | (with_reducible first | exact HB.out | apply bA_ | apply bN_ | apply bD_) | exact HB.out)))); have n1_ := Aside0.mk (below_step (by repeat (first | (with_reducible first | exact HB.out | apply bA_ | apply bN_ | apply bD_) | exact HB.out)) hb); clear HB; have HO171 := n0_; have HB := n1_; clear n0_ n1_; (try clear hb); (try clear hb2); (try clear hk); (try clear hi); (try clear ho0); obtain ⟨Ao10, co10, eo10⟩ := Kd.R_slice HO171.out; subst eo10) | ((with_reducible refine gate_callee (f := 92) rfl ?_); refine goesL_ (some 20) rfl rfl Try.func92 (by kernel_rfl) rfl #[.slice Ao10 t169.length co10, .int .i64 a3] rfl (by (try simp only [List.map_toArray, List.map_cons, List.map_nil]); first | done | rfl | (simp only [List.length_drop, List.length_take]; rfl)) ?_; (with_reducible refine (slices_Contains_int_int.calls k _ _ t169 a3 t172 _ ?side1 ?side2 A8.out).mono ?_); (case side1 => repeat (first | exact (Kd.R_reads' HO171.out).2.2 | (with_reducible refine Kd.C_alloc ?_ _) | (with_reducible refine Kd.C_drewN ?_ _) | (with_reducible refine Kd.C_drew ?_))); (case side2 => exact (Kd.R_reads' HO171.out).2.1); rintro e w' ⟨rfl, ⟨nd, rfl⟩⟩; refine ⟨_, rfl, ?_⟩))
  go_ret
  exact ⟨by first | rfl | (simp [errW_none, errW_some] <;> rfl) | (simp [*, errW_none, errW_some] <;> rfl), by repeat (first | (with_reducible first | exact HB.out | apply bA_ | apply bN_ | apply bD_) | exact HB.out)⟩

end Go.Proofs.Ytgmgoabohppkeaa.XFnRoles
