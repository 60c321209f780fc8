/- Written by this session's own program (wip/xprint, which runs over the kit's print): what the functions that the law reaches come to, each proved; and the law's row. Conditions: none. -/
import Derived.Test.YthjhenhmjmpkaaaUFnConditionsx0
import Derived.Test.YthjhenhmjmpkaaaUFnConditionsx1
namespace Go.Proofs.Ythjhenhmjmpkaaa.XFnConditions
open Go.RowKit Go.Proofs.YthjhenhmjmpkaaaW.PrintWords Go.Proofs.YthjhenhmjmpkaaaW.PrintLast Go.Proofs.YthjhenhmjmpkaaaW.PrintMore
attribute [local go_sem] max2_int min2_int max_two min_two max_three min_three max_four min_four   -- for this text's walks alone
set_option linter.unusedVariables false
set_option linter.unusedSimpArgs false

/-! ### impl_LeavesOf: function 8 -/
/-- Is one of the list the same as the node? -/
def impl_LeavesOf.has (k : Nat) (x : S29) : List S29 → Option Bool
  | [] => some false
  | y :: t => (impl_EqualConds.f k y.f0 y.f1 y.f2 y.f3 x.f0 x.f1 x.f2 x.f3).bind fun b => if b = true then some true else impl_LeavesOf.has k x t
/-- The leaves of a node that the list lacks, behind it. -/
def impl_LeavesOf.g : Nat → S29 → List S29 → Option (List S29)
  | 0, _, _ => none
  | k + 1, x, l => (if 2 ≤ x.f0 ∧ x.f0 ≤ 6 ∧ x.f3.length = 0 then (impl_LeavesOf.has k x l).bind fun b => if b = true then some l else (impl_copyCond.f k x.f0 x.f1 x.f2 x.f3).bind fun y => if l.length < 2932031007402 then some (l ++ [⟨y.1, y.2.1, y.2.2.1, y.2.2.2⟩]) else none else some l).bind fun l1 => x.f3.foldlM (fun l y => impl_LeavesOf.g k y l) l1
def impl_LeavesOf.f (k : Nat) (a0_0 : Int) (a0_1 : Int) (a0_2 : Int) (l0_3 : List S29) : Option (List S29) := impl_LeavesOf.g k ⟨a0_0, a0_1, a0_2, l0_3⟩ []
set_option maxHeartbeats 8000000 in
set_option maxRecDepth 100000 in
theorem impl_LeavesOf.closure (k : Nat) (x y : S29) (A A2 : Option Addr) (c c2 : Nat) (gb : Nat) (eb : Bool) (W : World) (hb : W.heap[gb]? = some (.cells #[.int .i64 x.f0, .int .i64 x.f1, .int .i64 x.f2, .slice A x.f3.length c] 29 (0, 0))) (hX : Kd.C k29 W A x.f3.length x.f3) (hC : x.f3.length ≤ c) (hY : Kd.C k29 W A2 y.f3.length y.f3) (hC2 : y.f3.length ≤ c2) (h : impl_EqualConds.f k y.f0 y.f1 y.f2 y.f3 x.f0 x.f1 x.f2 x.f3 = some eb) :
    Calls Try.prog 36 #[.agg #[.int .i64 y.f0, .int .i64 y.f1, .int .i64 y.f2, .slice A2 y.f3.length c2], .pointer (some ⟨gb, 0, none⟩)] W fun e w' => e = .returned (.bool eb) ∧ Below W.heap.size W w' := by
  have BK0 := Aside0.mk hb
  have HX := Aside0.mk hX
  have HC := Aside0.mk hC
  have HY := Aside0.mk hY
  have HC2 := Aside0.mk hC2
  have HE := Aside0.mk h
  clear hb hX hC hY hC2 h
  go_enter Try.func36, Try.ntmps36
  go_wp2_with (first | ((with_reducible refine gate_dst (N := 2) rfl ?_); refine box_event ?hg (N := 2) ?hd (cs := #[.int .i64 y.f0, .int .i64 y.f1, .int .i64 y.f2, .slice A2 y.f3.length c2]) (t := 29) ?hr ?_; (case hd => rfl); (case hg => rfl); (case hr => first | (go_simp; done) | (go_simp; rfl)); intro g2 hg w2 hbox hb; have BK2 := Aside0.mk hbox; have BK := Aside0.mk (blk_below BK0.out hb); have HB := Aside0.mk hb; clear hg hbox hb; have hcy0 : w2.cell? ⟨g2, 0, none⟩ = some (.int .i64 y.f0) := (bC_ BK2.out 0).trans rfl; have hcy1 : w2.cell? ⟨g2, 1, none⟩ = some (.int .i64 y.f1) := (bC_ BK2.out 1).trans rfl; have hcy2 : w2.cell? ⟨g2, 2, none⟩ = some (.int .i64 y.f2) := (bC_ BK2.out 2).trans rfl; have hcy3 : w2.cell? ⟨g2, 3, none⟩ = some (.slice A2 y.f3.length c2) := (bC_ BK2.out 3).trans rfl; have hcx0 : w2.cell? ⟨gb, 0, none⟩ = some (.int .i64 x.f0) := (bC_ BK.out 0).trans rfl; have hcx1 : w2.cell? ⟨gb, 1, none⟩ = some (.int .i64 x.f1) := (bC_ BK.out 1).trans rfl; have hcx2 : w2.cell? ⟨gb, 2, none⟩ = some (.int .i64 x.f2) := (bC_ BK.out 2).trans rfl; have hcx3 : w2.cell? ⟨gb, 3, none⟩ = some (.slice A x.f3.length c) := (bC_ BK.out 3).trans rfl) | (go_at_call 21; refine (impl_EqualConds.calls k y.f0 y.f1 y.f2 _ _ y.f3 x.f0 x.f1 x.f2 _ _ x.f3 eb w2 (Kd.C_below HY.out HB.out) HC2.out (Kd.C_below HX.out HB.out) HC.out HE.out).mono ?_; rintro e w3 ⟨rfl, hb⟩; have HB3 := Aside0.mk (below_step HB.out hb); clear hb))
  go_ret
  exact ⟨rfl, HB3.out⟩
set_option maxHeartbeats 8000000 in
set_option maxRecDepth 100000 in
theorem impl_LeavesOf.index (k : Nat) (x : S29) (l0 : List S29) (A Au : Option Addr) (c cu : Nat) (gb : Nat) (bf : Bool) (w : World) (hb : w.heap[gb]? = some (.cells #[.int .i64 x.f0, .int .i64 x.f1, .int .i64 x.f2, .slice A x.f3.length c] 29 (0, 0))) (hX : Kd.C k29 w A x.f3.length x.f3) (hC : x.f3.length ≤ c) (hL : Kd.C k29 w Au l0.length l0) (h : impl_LeavesOf.has k x l0 = some bf) :
    Calls Try.prog 42 #[.slice Au l0.length cu, .func (.func 36) #[] #[.pointer (some ⟨gb, 0, none⟩)]] w fun e w' => ∃ i : Int, e = .returned (.int .i64 i) ∧ decide (i ≥ 0) = bf ∧ Below w.heap.size w w' := by
  have BK := Aside0.mk hb
  have HX := Aside0.mk hX
  have HC := Aside0.mk hC
  have HL := Aside0.mk hL
  have HL0 := Aside0.mk (Kd.C_max hL)
  have HH := Aside0.mk h
  clear hb hX hC hL h
  go_enter Try.func42, Try.ntmps42
  go_wp2
  go_loopg [5, 8] l0.length (fun gg _ v8 w' => ∃ (a' b : List S29), Aside0 (l0 = a' ++ b) ∧ b.length ≤ gg ∧ v8 = .int .i64 (a'.length : Int) ∧ Aside0 (impl_LeavesOf.has k x b = some bf) ∧ Aside0 (Below w.heap.size w w'))
  case atStart => exact ⟨[], l0, ⟨rfl⟩, Nat.le_refl _, rfl, HH, ⟨Below.refl _ _⟩⟩
  case round =>
    clear HH
    obtain ⟨a', b, hl, hgg, rfl, HH, HB⟩ := hrel
    cases b with
    | nil =>
      have hd : decide ((a'.length : Int) < (l0.length : Int)) = false := decide_eq_false (by rw [hl.out]; simp)
      have hd2 : ((a'.length : Int) < (l0.length : Int)) = False := eq_false (by rw [hl.out]; simp)
      have hd3 : (a'.length < l0.length) = False := eq_false (by rw [hl.out]; simp)
      have hbf := HH.out
      rw [impl_LeavesOf.has] at hbf
      obtain rfl := Option.some.inj hbf
      clear hbf
      go_wp2
      go_ret
      exact ⟨_, rfl, by decide, HB.out⟩
    | cons y b =>
      have hlt : (a'.length : Int) < (l0.length : Int) := by rw [hl.out]; simp; omega
      have hd : decide ((a'.length : Int) < (l0.length : Int)) = true := decide_eq_true hlt
      have hxx : rd_T29 l0 (a'.length : Int) = y := by
        unfold rd_T29
        rw [Int.toNat_natCast, hl.out, List.getD_eq_getElem?_getD, List.getElem?_append_right (Nat.le_refl _), Nat.sub_self]
        rfl
      obtain ⟨ad2, A2, c2, e2, hx0, hx1, hx2, hx3, hl2, hi2⟩ := at_T29 HL.out (a'.length : Int) (by omega) hlt
      have HI2 := Aside0.mk (hxx ▸ hi2 : Kd.C k29 w A2 y.f3.length y.f3)
      have HL2 := Aside0.mk (hxx ▸ hl2 : y.f3.length ≤ c2)
      clear hi2 hl2
      rw [hxx] at hx0 hx1 hx2 hx3
      cases e2
      replace hx0 := (HB.out.cell (World.block_lt_of_cell? w _ hx0)).trans hx0
      replace hx1 := (HB.out.cell (World.block_lt_of_cell? w _ hx1)).trans hx1
      replace hx2 := (HB.out.cell (World.block_lt_of_cell? w _ hx2)).trans hx2
      replace hx3 := (HB.out.cell (World.block_lt_of_cell? w _ hx3)).trans hx3
      have hlt' := eq_true hlt
      simp only [Int.toNat_natCast] at hx0 hx1 hx2 hx3
      cases gk with
      | zero => exact absurd hgg (by simp)
      | succ g1 =>
      have hbf := HH.out
      clear HH
      rw [impl_LeavesOf.has] at hbf
      cases he : impl_EqualConds.f k y.f0 y.f1 y.f2 y.f3 x.f0 x.f1 x.f2 x.f3 with
      | none => rw [he] at hbf; cases hbf
      | some eb =>
      rw [he, Option.bind_some] at hbf
      have hcall := impl_LeavesOf.closure k x y A A2 c c2 gb eb wr (blk_below BK.out HB.out) (Kd.C_below HX.out HB.out) HC.out (Kd.C_below HI2.out HB.out) HL2.out he
      clear he
      cases eb with
      | true =>
        rw [if_pos rfl] at hbf
        obtain rfl := Option.some.inj hbf
        clear hbf
        go_wp2_with (first | (go_at_call 36; refine hcall.mono ?_; rintro e w3 ⟨rfl, hb⟩; have HB3 := Aside0.mk (below_step HB.out hb); clear hb))
        go_ret
        exact ⟨_, rfl, decide_eq_true (Int.natCast_nonneg _), HB3.out⟩
      | false =>
        rw [if_neg (by simp)] at hbf
        have HH := Aside0.mk hbf
        clear hbf
        go_wp2_with (first | (go_at_call 36; refine hcall.mono ?_; rintro e w3 ⟨rfl, hb⟩; have HB3 := Aside0.mk (below_step HB.out hb); clear hb))
        go_roundg g1
        case measure => omega
        case rel => exact ⟨a' ++ [y], b, ⟨by rw [hl.out]; simp⟩, by simp at hgg; omega, by have := HL0.out; rw [List.length_append]; unfold wrap64; rw [hl.out] at this; simp at this ⊢; omega, HH, HB3⟩
set_option maxHeartbeats 8000000 in
set_option maxRecDepth 100000 in
theorem impl_LeavesOf.contains (k : Nat) (x : S29) (l0 : List S29) (A Au : Option Addr) (c cu : Nat) (gb : Nat) (bf : Bool) (w : World) (hb : w.heap[gb]? = some (.cells #[.int .i64 x.f0, .int .i64 x.f1, .int .i64 x.f2, .slice A x.f3.length c] 29 (0, 0))) (hX : Kd.C k29 w A x.f3.length x.f3) (hC : x.f3.length ≤ c) (hL : Kd.C k29 w Au l0.length l0) (h : impl_LeavesOf.has k x l0 = some bf) :
    Calls Try.prog 35 #[.slice Au l0.length cu, .func (.func 36) #[] #[.pointer (some ⟨gb, 0, none⟩)]] w fun e w' => e = .returned (.bool bf) ∧ Below w.heap.size w w' := by
  have hcall := impl_LeavesOf.index k x l0 A Au c cu gb bf w hb hX hC hL h
  clear hb hX hC hL h
  go_enter Try.func35, Try.ntmps35
  go_wp2_with (first | (go_at_call 42; refine hcall.mono ?_; rintro e w3 ⟨i, rfl, hi, hb⟩; have HB3 := Aside0.mk hb; clear hb))
  go_ret
  exact ⟨rfl, HB3.out⟩
set_option maxHeartbeats 16000000 in
set_option maxRecDepth 100000 in
theorem impl_LeavesOf.run (k : Nat) : ∀ (l0 : List S29) (u : Value) (x : S29) (A : Option Addr) (c : Nat) (r : List S29) (P : Nat → Prop) (w0 w : World) (hB : Below w0.heap.size w0 w) (hS : Kd.S k29 29 w w0.heap.size P u l0) (hX : Kd.C k29 w0 A x.f3.length x.f3) (hC : x.f3.length ≤ c) (h : impl_LeavesOf.g k x l0 = some r),
    Calls Try.prog 26 #[.agg #[.int .i64 x.f0, .int .i64 x.f1, .int .i64 x.f2, .slice A x.f3.length c], u] w fun e w' => ∃ v : Value, e = .returned (v) ∧ Kd.S k29 29 w' w0.heap.size (fun j => P j ∨ w.heap.size ≤ j) v r ∧ Kept w w' P ∧ Below w0.heap.size w0 w' := by
  induction k with
  | zero =>
    intro l0 u x A c r P w0 w hB hS hX hC h
    exact absurd h (by simp [impl_LeavesOf.g])
  | succ k ih =>
  intro l0 u x A c r P w0 w hB hS hX hC h
  obtain ⟨Au, cu, rfl, hcu, hCu0⟩ := Kd.S_reads hS
  have HX0 := Aside0.mk (Kd.C_max hX)
  have HB := Aside0.mk hB
  have HS := Aside0.mk hS
  have HX := Aside0.mk hX
  have HC := Aside0.mk hC
  clear hB hS hX hC hcu hCu0
  rw [impl_LeavesOf.g] at h
  have hin : impl_InRange.f x.f0 2 6 = some (decide (2 ≤ x.f0 ∧ x.f0 ≤ 6)) := by
    unfold impl_InRange.f
    by_cases q : 2 ≤ x.f0
    · rw [if_pos q]; simp [q]
    · rw [if_neg q]; simp [q]
  by_cases c0 : 2 ≤ x.f0 ∧ x.f0 ≤ 6
  · rw [decide_eq_true c0] at hin
    by_cases hz0 : x.f3.length = 0
    · rw [if_pos ⟨c0.1, c0.2, hz0⟩] at h
      have hz : ((x.f3.length : Int) == 0) = true := by rw [hz0]; rfl
      cases hh : impl_LeavesOf.has k x l0 with
      | none => rw [hh] at h; cases h
      | some bf =>
      rw [hh, Option.bind_some] at h
      have HH := Aside0.mk hh
      clear hh hz0 c0
      cases bf with
      | true =>
        rw [if_pos rfl, Option.bind_some] at h
        have HR := Aside0.mk h
        clear h
        go_enter Try.func26, Try.ntmps26
        go_wp2_with (first | ((with_reducible refine gate_dst (N := 2) rfl ?_); refine box_event ?hg (N := 2) ?hd (cs := #[.int .i64 x.f0, .int .i64 x.f1, .int .i64 x.f2, .slice A x.f3.length c]) (t := 29) ?hr ?_; (case hd => rfl); (case hg => rfl); (case hr => first | (go_simp; done) | (go_simp; rfl)); intro gb hg w2 hbox hb; have BK := Aside0.mk hbox; have GB := Aside0.mk ((by rw [hg]; exact Nat.le_refl _ : w.heap.size ≤ gb)); have HS2 := Aside0.mk (Kd.S_below (Kd.S_elderB HS.out gb (Nat.le_of_eq hg.symm)) hb); have HK := Aside0.mk (Kept.of_below hb P); have HB2 := Aside0.mk (below_step HB.out hb); clear HS HB; have HS := HS2; have HB := HB2; clear HS2 HB2 hbox hb hg; have hcx0 : w2.cell? ⟨gb, 0, none⟩ = some (.int .i64 x.f0) := (bC_ BK.out 0).trans rfl; have hcx1 : w2.cell? ⟨gb, 1, none⟩ = some (.int .i64 x.f1) := (bC_ BK.out 1).trans rfl; have hcx2 : w2.cell? ⟨gb, 2, none⟩ = some (.int .i64 x.f2) := (bC_ BK.out 2).trans rfl; have hcx3 : w2.cell? ⟨gb, 3, none⟩ = some (.slice A x.f3.length c) := (bC_ BK.out 3).trans rfl) | (go_at_call 31; refine (impl_InRange.calls x.f0 2 6 true _ hin).mono ?_; rintro e w' ⟨rfl, ⟨nd, rfl⟩⟩) | (go_at_call 35; refine (impl_LeavesOf.contains k x l0 _ _ c cu gb true _ (by (with_reducible repeat (first | refine blk_drewN ?_ _ | refine blk_drew ?_ | refine blk_alloc ?_ _)); exact BK.out) (Kd.C_below HX.out (by repeat (first | (with_reducible first | exact HB.out | apply bA_ | apply bN_ | apply bD_) | exact HB.out))) HC.out (by (with_reducible repeat (first | refine Kd.C_alloc ?_ _ | refine Kd.C_drewN ?_ _ | refine Kd.C_drew ?_)); exact (Kd.S_reads' HS.out).2.2) HH.out).mono ?_; rintro e w3 ⟨rfl, hb⟩; have HB3 := Aside0.mk (below_step (by repeat (first | (with_reducible first | exact HB.out | apply bA_ | apply bN_ | apply bD_) | exact HB.out)) hb); have HS3 := Aside0.mk (Kd.S_below (by (with_reducible repeat (first | apply Kd.S_alloc | apply Kd.S_drewN | apply Kd.S_drew)); exact HS.out) hb); have BK3 := Aside0.mk (blk_below (by (with_reducible repeat (first | refine blk_drewN ?_ _ | refine blk_drew ?_ | refine blk_alloc ?_ _)); exact BK.out) hb); have HK3 := Aside0.mk (Kept.below (w := w) (S := P) (by (with_reducible repeat (first | refine Kept.drew ?_ | refine Kept.drewN ?_ _)); exact HK.out) hb); clear hb HS HB BK HK; have hcw0 : w3.cell? ⟨gb, 0, none⟩ = some (.int .i64 x.f0) := (bC_ BK3.out 0).trans rfl; have hcw1 : w3.cell? ⟨gb, 1, none⟩ = some (.int .i64 x.f1) := (bC_ BK3.out 1).trans rfl; have hcw2 : w3.cell? ⟨gb, 2, none⟩ = some (.int .i64 x.f2) := (bC_ BK3.out 2).trans rfl; have hcw3 : w3.cell? ⟨gb, 3, none⟩ = some (.slice _ x.f3.length c) := (bC_ BK3.out 3).trans rfl))
        clear hz hin
        (try clear hcx0 hcx1 hcx2 hcx3)
        (try clear hcw0 hcw1 hcw2 hcw3)
        go_loopg [1, 30] x.f3.length (fun gg v0 v6 w' => ∃ (a' b : List S29) (l : List S29), Aside0 (x.f3 = a' ++ b) ∧ b.length ≤ gg ∧ v6 = .int .i64 (a'.length : Int) ∧ Aside0 (b.foldlM (fun l y => impl_LeavesOf.g k y l) l = some r) ∧ Aside0 (Kd.S k29 29 w' w0.heap.size (fun j => (P j ∨ w.heap.size ≤ j) ∧ j ≠ gb) v0 l) ∧ Aside0 (w'.heap[gb]? = some (.cells #[.int .i64 x.f0, .int .i64 x.f1, .int .i64 x.f2, .slice A x.f3.length c] 29 (0, 0))) ∧ Aside0 (Kept w w' P) ∧ Aside0 (Below w0.heap.size w0 w'))
        case atStart => exact ⟨[], x.f3, _, ⟨rfl⟩, Nat.le_refl _, rfl, HR, ⟨(Kd.S_mono HS3.out (fun j hj => ⟨.inl hj.1, hj.2⟩))⟩, ⟨BK3.out⟩, ⟨HK3.out⟩, ⟨HB3.out⟩⟩
        case round =>
          clear HR
          (try clear HS)
          (try clear BK)
          (try clear HK)
          (try clear HB)
          obtain ⟨a', b, l, hl, hgg, rfl, HR, HS, BK, HK, HB⟩ := hrel
          cases b with
          | nil =>
            have hd : decide ((a'.length : Int) < (x.f3.length : Int)) = false := decide_eq_false (by rw [hl.out]; simp)
            have hd2 : ((a'.length : Int) < (x.f3.length : Int)) = False := eq_false (by rw [hl.out]; simp)
            have hd3 : (a'.length < x.f3.length) = False := eq_false (by rw [hl.out]; simp)
            have hr := HR.out
            obtain rfl := Option.some.inj hr
            clear hr
            go_wp2
            go_ret
            exact ⟨_, rfl, Kd.S_mono HS.out (fun j hj => hj.1), HK.out, HB.out⟩
          | cons y b =>
            have hlt : (a'.length : Int) < (x.f3.length : Int) := by rw [hl.out]; simp; omega
            have hd : decide ((a'.length : Int) < (x.f3.length : Int)) = true := decide_eq_true hlt
            have hxx : rd_T29 x.f3 (a'.length : Int) = y := by
              unfold rd_T29
              rw [Int.toNat_natCast, hl.out, List.getD_eq_getElem?_getD, List.getElem?_append_right (Nat.le_refl _), Nat.sub_self]
              rfl
            obtain ⟨ad2, A2, c2, e2, hx0, hx1, hx2, hx3, hl2, hi2⟩ := at_T29 HX.out (a'.length : Int) (by omega) hlt
            have HI2 := Aside0.mk (hxx ▸ hi2 : Kd.C k29 w0 A2 y.f3.length y.f3)
            have HL2 := Aside0.mk (hxx ▸ hl2 : y.f3.length ≤ c2)
            clear hi2 hl2
            rw [hxx] at hx0 hx1 hx2 hx3
            cases e2
            replace hx0 := (HB.out.cell (World.block_lt_of_cell? w0 _ hx0)).trans hx0
            replace hx1 := (HB.out.cell (World.block_lt_of_cell? w0 _ hx1)).trans hx1
            replace hx2 := (HB.out.cell (World.block_lt_of_cell? w0 _ hx2)).trans hx2
            replace hx3 := (HB.out.cell (World.block_lt_of_cell? w0 _ hx3)).trans hx3
            have hlt' := eq_true hlt
            simp only [Int.toNat_natCast] at hx0 hx1 hx2 hx3
            cases gk with
            | zero => exact absurd hgg (by simp)
            | succ g1 =>
            have hr := HR.out
            clear HR
            rw [List.foldlM_cons] at hr
            cases hy : impl_LeavesOf.g k y l with
            | none => rw [hy] at hr; cases hr
            | some l1 =>
            rw [hy] at hr
            have HY := Aside0.mk hy
            have HR : Aside0 (b.foldlM (fun l y => impl_LeavesOf.g k y l) l1 = some r) := ⟨hr⟩
            clear hy hr
            go_wp2_with (first | ((with_reducible refine gate_dst (N := 6) rfl ?_); refine box_event ?hg (N := 6) ?hd (cs := #[.int .i64 0, .int .i64 0, .int .i64 0, .slice none 0 0]) (t := 29) ?hr ?_; (case hd => rfl); (case hg => rfl); (case hr => first | (go_simp; done) | (go_simp; rfl)); intro ga hg w5 hbox hb; have BA := Aside0.mk hbox; have GA := Aside0.mk (And.intro (by rw [hg]; exact HK.out.1 : w.heap.size ≤ ga) (by rw [hg]; exact below_size HB.out : w0.heap.size ≤ ga)); have NE := Aside0.mk (by have := blk_lt BK.out; omega : gb ≠ ga); have HS5 := Aside0.mk (Kd.S_below (Kd.S_elderB HS.out ga (Nat.le_of_eq hg.symm)) hb); have BK5 := Aside0.mk (blk_below BK.out hb); have HK5 := Aside0.mk (HK.out.below hb); have HB5 := Aside0.mk (below_step HB.out hb); clear HS HB HK BK hbox hb hg; have hca0 : w5.cell? ⟨ga, 0, none⟩ = some (.int .i64 0) := (bC_ BA.out 0).trans rfl; have hca1 : w5.cell? ⟨ga, 1, none⟩ = some (.int .i64 0) := (bC_ BA.out 1).trans rfl; have hca2 : w5.cell? ⟨ga, 2, none⟩ = some (.int .i64 0) := (bC_ BA.out 2).trans rfl; have hca3 : w5.cell? ⟨ga, 3, none⟩ = some (.slice none 0 0) := (bC_ BA.out 3).trans rfl; have hfa0 := bF_ BA.out 0; have hfa1 := bF_ BA.out 1; have hfa2 := bF_ BA.out 2; have hfa3 := bF_ BA.out 3) | (go_at_call 26; have hb6 : Below w0.heap.size w0 ((((w5.setCell ⟨ga, 0, none⟩ (.int .i64 y.f0)).setCell ⟨ga, 1, none⟩ (.int .i64 y.f1)).setCell ⟨ga, 2, none⟩ (.int .i64 y.f2)).setCell ⟨ga, 3, none⟩ (.slice A2 y.f3.length c2)) := bS_ (bS_ (bS_ (bS_ HB5.out GA.out.2) GA.out.2) GA.out.2) GA.out.2; have hk6 : Kept w ((((w5.setCell ⟨ga, 0, none⟩ (.int .i64 y.f0)).setCell ⟨ga, 1, none⟩ (.int .i64 y.f1)).setCell ⟨ga, 2, none⟩ (.int .i64 y.f2)).setCell ⟨ga, 3, none⟩ (.slice A2 y.f3.length c2)) P := Kept.setCell (Kept.setCell (Kept.setCell (Kept.setCell HK5.out (.inr GA.out.1) _) (.inr GA.out.1) _) (.inr GA.out.1) _) (.inr GA.out.1) _; have hs6 := Kd.S_far (p := ⟨ga, 3, none⟩) (Kd.S_far (p := ⟨ga, 2, none⟩) (Kd.S_far (p := ⟨ga, 1, none⟩) (Kd.S_far (p := ⟨ga, 0, none⟩) HS5.out (fun _ hk => hk.2) (.int .i64 y.f0)) (fun _ hk => hk.2) (.int .i64 y.f1)) (fun _ hk => hk.2) (.int .i64 y.f2)) (fun _ hk => hk.2) (.slice A2 y.f3.length c2); have bk6 : ((((w5.setCell ⟨ga, 0, none⟩ (.int .i64 y.f0)).setCell ⟨ga, 1, none⟩ (.int .i64 y.f1)).setCell ⟨ga, 2, none⟩ (.int .i64 y.f2)).setCell ⟨ga, 3, none⟩ (.slice A2 y.f3.length c2)).heap[gb]? = some (.cells #[.int .i64 x.f0, .int .i64 x.f1, .int .i64 x.f2, .slice _ x.f3.length c] 29 (0, 0)) := blk_far (blk_far (blk_far (blk_far BK5.out NE.out _) NE.out _) NE.out _) NE.out _; refine (ih l _ y _ _ l1 (fun j => ((P j ∨ w.heap.size ≤ j) ∧ j ≠ gb) ∧ j ≠ ga) w0 ((((w5.setCell ⟨ga, 0, none⟩ (.int .i64 y.f0)).setCell ⟨ga, 1, none⟩ (.int .i64 y.f1)).setCell ⟨ga, 2, none⟩ (.int .i64 y.f2)).setCell ⟨ga, 3, none⟩ (.slice A2 y.f3.length c2)) hb6 hs6 HI2.out HL2.out HY.out).mono ?_; rintro e w7 ⟨v3, rfl, hs3, hk3, hb3⟩; have HS3 := Aside0.mk (Kd.S_mono hs3 (ok' := fun j => (P j ∨ w.heap.size ≤ j) ∧ j ≠ gb) (fun j hj => hj.elim (fun q => q.1) (fun q => ⟨.inr (Nat.le_trans hk6.1 q), fun e => by have := blk_lt bk6; omega⟩))); have BK3 := Aside0.mk (blk_kept bk6 hk3 (fun q => q.1.2 rfl)); have HK3 := Aside0.mk (hk6.then_ hk3 (fun j hj => hj.1.1)); have HB3 := Aside0.mk hb3; clear hs3 hk3 hb3 hb6 hk6 hs6 bk6))
            go_roundg g1
            case measure => omega
            case rel => exact ⟨a' ++ [y], b, l1, ⟨by rw [hl.out]; simp⟩, by simp at hgg; omega, by have := HX0.out; rw [List.length_append]; unfold wrap64; rw [hl.out] at this; simp at this ⊢; omega, HR, HS3, BK3, HK3, HB3⟩
      | false =>
        rw [if_neg (by simp)] at h
        cases hy : impl_copyCond.f k x.f0 x.f1 x.f2 x.f3 with
        | none => rw [hy] at h; cases h
        | some y =>
        obtain ⟨y0, y1, y2, y3⟩ := y
        rw [hy, Option.bind_some] at h
        by_cases hlm : l0.length < 2932031007402
        · rw [if_pos hlm, Option.bind_some] at h
          have HLM := Aside0.mk hlm
          have HY := Aside0.mk hy
          have HR := Aside0.mk h
          clear hlm hy h
          go_enter Try.func26, Try.ntmps26
          go_wp2_with (first | ((with_reducible refine gate_dst (N := 2) rfl ?_); refine box_event ?hg (N := 2) ?hd (cs := #[.int .i64 x.f0, .int .i64 x.f1, .int .i64 x.f2, .slice A x.f3.length c]) (t := 29) ?hr ?_; (case hd => rfl); (case hg => rfl); (case hr => first | (go_simp; done) | (go_simp; rfl)); intro gb hg w2 hbox hb; have BK := Aside0.mk hbox; have GB := Aside0.mk ((by rw [hg]; exact Nat.le_refl _ : w.heap.size ≤ gb)); have HS2 := Aside0.mk (Kd.S_below (Kd.S_elderB HS.out gb (Nat.le_of_eq hg.symm)) hb); have HK := Aside0.mk (Kept.of_below hb P); have HB2 := Aside0.mk (below_step HB.out hb); clear HS HB; have HS := HS2; have HB := HB2; clear HS2 HB2 hbox hb hg; have hcx0 : w2.cell? ⟨gb, 0, none⟩ = some (.int .i64 x.f0) := (bC_ BK.out 0).trans rfl; have hcx1 : w2.cell? ⟨gb, 1, none⟩ = some (.int .i64 x.f1) := (bC_ BK.out 1).trans rfl; have hcx2 : w2.cell? ⟨gb, 2, none⟩ = some (.int .i64 x.f2) := (bC_ BK.out 2).trans rfl; have hcx3 : w2.cell? ⟨gb, 3, none⟩ = some (.slice A x.f3.length c) := (bC_ BK.out 3).trans rfl) | (go_at_call 31; refine (impl_InRange.calls x.f0 2 6 true _ hin).mono ?_; rintro e w' ⟨rfl, ⟨nd, rfl⟩⟩) | (go_at_call 35; refine (impl_LeavesOf.contains k x l0 _ _ c cu gb false _ (by (with_reducible repeat (first | refine blk_drewN ?_ _ | refine blk_drew ?_ | refine blk_alloc ?_ _)); exact BK.out) (Kd.C_below HX.out (by repeat (first | (with_reducible first | exact HB.out | apply bA_ | apply bN_ | apply bD_) | exact HB.out))) HC.out (by (with_reducible repeat (first | refine Kd.C_alloc ?_ _ | refine Kd.C_drewN ?_ _ | refine Kd.C_drew ?_)); exact (Kd.S_reads' HS.out).2.2) HH.out).mono ?_; rintro e w3 ⟨rfl, hb⟩; have HB3 := Aside0.mk (below_step (by repeat (first | (with_reducible first | exact HB.out | apply bA_ | apply bN_ | apply bD_) | exact HB.out)) hb); have HS3 := Aside0.mk (Kd.S_below (by (with_reducible repeat (first | apply Kd.S_alloc | apply Kd.S_drewN | apply Kd.S_drew)); exact HS.out) hb); have BK3 := Aside0.mk (blk_below (by (with_reducible repeat (first | refine blk_drewN ?_ _ | refine blk_drew ?_ | refine blk_alloc ?_ _)); exact BK.out) hb); have HK3 := Aside0.mk (Kept.below (w := w) (S := P) (by (with_reducible repeat (first | refine Kept.drew ?_ | refine Kept.drewN ?_ _)); exact HK.out) hb); clear hb HS HB BK HK; have hcw0 : w3.cell? ⟨gb, 0, none⟩ = some (.int .i64 x.f0) := (bC_ BK3.out 0).trans rfl; have hcw1 : w3.cell? ⟨gb, 1, none⟩ = some (.int .i64 x.f1) := (bC_ BK3.out 1).trans rfl; have hcw2 : w3.cell? ⟨gb, 2, none⟩ = some (.int .i64 x.f2) := (bC_ BK3.out 2).trans rfl; have hcw3 : w3.cell? ⟨gb, 3, none⟩ = some (.slice _ x.f3.length c) := (bC_ BK3.out 3).trans rfl) | (go_at_call 28; refine (impl_copyCond.calls k x.f0 x.f1 x.f2 _ _ x.f3 y0 y1 y2 y3 w3 (Kd.C_below HX.out HB3.out) HC.out HY.out).mono ?_; rintro e w5 ⟨v3, rfl, ho0, hb⟩; obtain ⟨A3, c3, rfl⟩ := Kd.S_slice ho0; have HL := Aside0.mk (Kd.S_old HS3.out hb); have HN := Aside0.mk (Kd.S_lower (Kd.S_mono (Kd.S_bound ho0) (ok' := fun j => w3.heap.size ≤ j) (fun j hj => hj.2.1)) (below_size HB3.out)); have GW := Aside0.mk (And.intro (blk_lt BK3.out) HK3.out.1); have GU := Aside0.mk (fun j (hj : (Value.slice Au l0.length cu).ownBlock = some j) => And.intro (Kd.S_lt HS3.out j hj) ((Kd.S_R HS3.out).1 j hj)); have HK5 := Aside0.mk (HK3.out.below hb); have HB5 := Aside0.mk (below_step HB3.out hb); have BK5 := Aside0.mk (blk_below BK3.out hb); have GZ := Aside0.mk hb.size; clear HS3 HK3 HB3 BK3 hb ho0) | ((with_reducible refine gate_builtin (b := .append) (xs := #[.tmp 22, .tmp 25]) rfl ?_); at_builtin; refine Kd.S_append k29 (w0 := w0) w0.heap.size rfl (.tmp 22) (.tmp 25) 26 29 (.agg #[(.int .i64 0), (.int .i64 0), (.int .i64 0), (.slice none 0 0)]) 48 rfl Try.underlying26 info29 rfl (by decide) (by omega) (.slice Au l0.length cu) l0 (⟨y0, y1, y2, y3⟩ : S29) [.int .i64 y0, .int .i64 y1, .int .i64 y2, .slice A3 y3.length c3] (fun j => (P j ∨ w.heap.size ≤ j) ∧ j ≠ gb) (fun j => w3.heap.size ≤ j) rfl rfl ?aP ?aK ?aF ?aO ?aB ?aS ?aL ?_; (case aP => exact k29_mkM _ _ _ (⟨y0, y1, y2, y3⟩ : S29) HN.out); (case aK => exact fun j hj => ⟨⟨.inr (Nat.le_trans GW.out.2 hj), fun e => by have := GW.out.1; omega⟩, fun e => by have := (GU.out j e.symm).1; omega⟩); (case aF => exact fun j hj => ⟨.inr (Nat.le_trans (Nat.le_trans GW.out.2 GZ.out) hj), fun e => by have := GW.out.1; have := GZ.out; omega⟩); (case aO => exact Kd.S_mono HL.out (fun j hj => ⟨⟨.inl hj.1.1, hj.1.2⟩, fun e => by have := hj.2; omega⟩)); (case aB => exact HB5.out); (case aS => exact below_size HB5.out); (case aL => have := HLM.out; omega); intro v1 w4 ho hb4 hg hat; have HS4 := Aside0.mk ho; have HB4 := Aside0.mk hb4; have HK4 := Aside0.mk (Kept.of_grown hg HK5.out (fun j hj => .inl (GU.out j hj).2.1)); have BK4 := Aside0.mk (blk_grown BK5.out hg (fun e => (GU.out gb e.symm).2.2 rfl)); clear ho hb4 hg hat; have hcw0 : w4.cell? ⟨gb, 0, none⟩ = some (.int .i64 x.f0) := (bC_ BK4.out 0).trans rfl; have hcw1 : w4.cell? ⟨gb, 1, none⟩ = some (.int .i64 x.f1) := (bC_ BK4.out 1).trans rfl; have hcw2 : w4.cell? ⟨gb, 2, none⟩ = some (.int .i64 x.f2) := (bC_ BK4.out 2).trans rfl; have hcw3 : w4.cell? ⟨gb, 3, none⟩ = some (.slice _ x.f3.length c) := (bC_ BK4.out 3).trans rfl))
          clear hz hin
          (try clear hcx0 hcx1 hcx2 hcx3)
          (try clear hcw0 hcw1 hcw2 hcw3)
          go_loopg [1, 30] x.f3.length (fun gg v0 v6 w' => ∃ (a' b : List S29) (l : List S29), Aside0 (x.f3 = a' ++ b) ∧ b.length ≤ gg ∧ v6 = .int .i64 (a'.length : Int) ∧ Aside0 (b.foldlM (fun l y => impl_LeavesOf.g k y l) l = some r) ∧ Aside0 (Kd.S k29 29 w' w0.heap.size (fun j => (P j ∨ w.heap.size ≤ j) ∧ j ≠ gb) v0 l) ∧ Aside0 (w'.heap[gb]? = some (.cells #[.int .i64 x.f0, .int .i64 x.f1, .int .i64 x.f2, .slice A x.f3.length c] 29 (0, 0))) ∧ Aside0 (Kept w w' P) ∧ Aside0 (Below w0.heap.size w0 w'))
          case atStart => exact ⟨[], x.f3, _, ⟨rfl⟩, Nat.le_refl _, rfl, HR, ⟨HS4.out⟩, ⟨BK4.out⟩, ⟨HK4.out⟩, ⟨HB4.out⟩⟩
          case round =>
            clear HR
            (try clear HS)
            (try clear BK)
            (try clear HK)
            (try clear HB)
            obtain ⟨a', b, l, hl, hgg, rfl, HR, HS, BK, HK, HB⟩ := hrel
            cases b with
            | nil =>
              have hd : decide ((a'.length : Int) < (x.f3.length : Int)) = false := decide_eq_false (by rw [hl.out]; simp)
              have hd2 : ((a'.length : Int) < (x.f3.length : Int)) = False := eq_false (by rw [hl.out]; simp)
              have hd3 : (a'.length < x.f3.length) = False := eq_false (by rw [hl.out]; simp)
              have hr := HR.out
              obtain rfl := Option.some.inj hr
              clear hr
              go_wp2
              go_ret
              exact ⟨_, rfl, Kd.S_mono HS.out (fun j hj => hj.1), HK.out, HB.out⟩
            | cons y b =>
              have hlt : (a'.length : Int) < (x.f3.length : Int) := by rw [hl.out]; simp; omega
              have hd : decide ((a'.length : Int) < (x.f3.length : Int)) = true := decide_eq_true hlt
              have hxx : rd_T29 x.f3 (a'.length : Int) = y := by
                unfold rd_T29
                rw [Int.toNat_natCast, hl.out, List.getD_eq_getElem?_getD, List.getElem?_append_right (Nat.le_refl _), Nat.sub_self]
                rfl
              obtain ⟨ad2, A2, c2, e2, hx0, hx1, hx2, hx3, hl2, hi2⟩ := at_T29 HX.out (a'.length : Int) (by omega) hlt
              have HI2 := Aside0.mk (hxx ▸ hi2 : Kd.C k29 w0 A2 y.f3.length y.f3)
              have HL2 := Aside0.mk (hxx ▸ hl2 : y.f3.length ≤ c2)
              clear hi2 hl2
              rw [hxx] at hx0 hx1 hx2 hx3
              cases e2
              replace hx0 := (HB.out.cell (World.block_lt_of_cell? w0 _ hx0)).trans hx0
              replace hx1 := (HB.out.cell (World.block_lt_of_cell? w0 _ hx1)).trans hx1
              replace hx2 := (HB.out.cell (World.block_lt_of_cell? w0 _ hx2)).trans hx2
              replace hx3 := (HB.out.cell (World.block_lt_of_cell? w0 _ hx3)).trans hx3
              have hlt' := eq_true hlt
              simp only [Int.toNat_natCast] at hx0 hx1 hx2 hx3
              cases gk with
              | zero => exact absurd hgg (by simp)
              | succ g1 =>
              have hr := HR.out
              clear HR
              rw [List.foldlM_cons] at hr
              cases hy : impl_LeavesOf.g k y l with
              | none => rw [hy] at hr; cases hr
              | some l1 =>
              rw [hy] at hr
              have HY := Aside0.mk hy
              have HR : Aside0 (b.foldlM (fun l y => impl_LeavesOf.g k y l) l1 = some r) := ⟨hr⟩
              clear hy hr
              go_wp2_with (first | ((with_reducible refine gate_dst (N := 6) rfl ?_); refine box_event ?hg (N := 6) ?hd (cs := #[.int .i64 0, .int .i64 0, .int .i64 0, .slice none 0 0]) (t := 29) ?hr ?_; (case hd => rfl); (case hg => rfl); (case hr => first | (go_simp; done) | (go_simp; rfl)); intro ga hg w5 hbox hb; have BA := Aside0.mk hbox; have GA := Aside0.mk (And.intro (by rw [hg]; exact HK.out.1 : w.heap.size ≤ ga) (by rw [hg]; exact below_size HB.out : w0.heap.size ≤ ga)); have NE := Aside0.mk (by have := blk_lt BK.out; omega : gb ≠ ga); have HS5 := Aside0.mk (Kd.S_below (Kd.S_elderB HS.out ga (Nat.le_of_eq hg.symm)) hb); have BK5 := Aside0.mk (blk_below BK.out hb); have HK5 := Aside0.mk (HK.out.below hb); have HB5 := Aside0.mk (below_step HB.out hb); clear HS HB HK BK hbox hb hg; have hca0 : w5.cell? ⟨ga, 0, none⟩ = some (.int .i64 0) := (bC_ BA.out 0).trans rfl; have hca1 : w5.cell? ⟨ga, 1, none⟩ = some (.int .i64 0) := (bC_ BA.out 1).trans rfl; have hca2 : w5.cell? ⟨ga, 2, none⟩ = some (.int .i64 0) := (bC_ BA.out 2).trans rfl; have hca3 : w5.cell? ⟨ga, 3, none⟩ = some (.slice none 0 0) := (bC_ BA.out 3).trans rfl; have hfa0 := bF_ BA.out 0; have hfa1 := bF_ BA.out 1; have hfa2 := bF_ BA.out 2; have hfa3 := bF_ BA.out 3) | (go_at_call 26; have hb6 : Below w0.heap.size w0 ((((w5.setCell ⟨ga, 0, none⟩ (.int .i64 y.f0)).setCell ⟨ga, 1, none⟩ (.int .i64 y.f1)).setCell ⟨ga, 2, none⟩ (.int .i64 y.f2)).setCell ⟨ga, 3, none⟩ (.slice A2 y.f3.length c2)) := bS_ (bS_ (bS_ (bS_ HB5.out GA.out.2) GA.out.2) GA.out.2) GA.out.2; have hk6 : Kept w ((((w5.setCell ⟨ga, 0, none⟩ (.int .i64 y.f0)).setCell ⟨ga, 1, none⟩ (.int .i64 y.f1)).setCell ⟨ga, 2, none⟩ (.int .i64 y.f2)).setCell ⟨ga, 3, none⟩ (.slice A2 y.f3.length c2)) P := Kept.setCell (Kept.setCell (Kept.setCell (Kept.setCell HK5.out (.inr GA.out.1) _) (.inr GA.out.1) _) (.inr GA.out.1) _) (.inr GA.out.1) _; have hs6 := Kd.S_far (p := ⟨ga, 3, none⟩) (Kd.S_far (p := ⟨ga, 2, none⟩) (Kd.S_far (p := ⟨ga, 1, none⟩) (Kd.S_far (p := ⟨ga, 0, none⟩) HS5.out (fun _ hk => hk.2) (.int .i64 y.f0)) (fun _ hk => hk.2) (.int .i64 y.f1)) (fun _ hk => hk.2) (.int .i64 y.f2)) (fun _ hk => hk.2) (.slice A2 y.f3.length c2); have bk6 : ((((w5.setCell ⟨ga, 0, none⟩ (.int .i64 y.f0)).setCell ⟨ga, 1, none⟩ (.int .i64 y.f1)).setCell ⟨ga, 2, none⟩ (.int .i64 y.f2)).setCell ⟨ga, 3, none⟩ (.slice A2 y.f3.length c2)).heap[gb]? = some (.cells #[.int .i64 x.f0, .int .i64 x.f1, .int .i64 x.f2, .slice _ x.f3.length c] 29 (0, 0)) := blk_far (blk_far (blk_far (blk_far BK5.out NE.out _) NE.out _) NE.out _) NE.out _; refine (ih l _ y _ _ l1 (fun j => ((P j ∨ w.heap.size ≤ j) ∧ j ≠ gb) ∧ j ≠ ga) w0 ((((w5.setCell ⟨ga, 0, none⟩ (.int .i64 y.f0)).setCell ⟨ga, 1, none⟩ (.int .i64 y.f1)).setCell ⟨ga, 2, none⟩ (.int .i64 y.f2)).setCell ⟨ga, 3, none⟩ (.slice A2 y.f3.length c2)) hb6 hs6 HI2.out HL2.out HY.out).mono ?_; rintro e w7 ⟨v3, rfl, hs3, hk3, hb3⟩; have HS3 := Aside0.mk (Kd.S_mono hs3 (ok' := fun j => (P j ∨ w.heap.size ≤ j) ∧ j ≠ gb) (fun j hj => hj.elim (fun q => q.1) (fun q => ⟨.inr (Nat.le_trans hk6.1 q), fun e => by have := blk_lt bk6; omega⟩))); have BK3 := Aside0.mk (blk_kept bk6 hk3 (fun q => q.1.2 rfl)); have HK3 := Aside0.mk (hk6.then_ hk3 (fun j hj => hj.1.1)); have HB3 := Aside0.mk hb3; clear hs3 hk3 hb3 hb6 hk6 hs6 bk6))
              go_roundg g1
              case measure => omega
              case rel => exact ⟨a' ++ [y], b, l1, ⟨by rw [hl.out]; simp⟩, by simp at hgg; omega, by have := HX0.out; rw [List.length_append]; unfold wrap64; rw [hl.out] at this; simp at this ⊢; omega, HR, HS3, BK3, HK3, HB3⟩
        · rw [if_neg hlm] at h
          cases h
    · rw [if_neg (fun q => hz0 q.2.2), Option.bind_some] at h
      have hz : ((x.f3.length : Int) == 0) = false := by simp; exact fun e => hz0 (by rw [e]; rfl)
      have HR := Aside0.mk h
      clear h hz0 c0
      go_enter Try.func26, Try.ntmps26
      go_wp2_with (first | ((with_reducible refine gate_dst (N := 2) rfl ?_); refine box_event ?hg (N := 2) ?hd (cs := #[.int .i64 x.f0, .int .i64 x.f1, .int .i64 x.f2, .slice A x.f3.length c]) (t := 29) ?hr ?_; (case hd => rfl); (case hg => rfl); (case hr => first | (go_simp; done) | (go_simp; rfl)); intro gb hg w2 hbox hb; have BK := Aside0.mk hbox; have GB := Aside0.mk ((by rw [hg]; exact Nat.le_refl _ : w.heap.size ≤ gb)); have HS2 := Aside0.mk (Kd.S_below (Kd.S_elderB HS.out gb (Nat.le_of_eq hg.symm)) hb); have HK := Aside0.mk (Kept.of_below hb P); have HB2 := Aside0.mk (below_step HB.out hb); clear HS HB; have HS := HS2; have HB := HB2; clear HS2 HB2 hbox hb hg; have hcx0 : w2.cell? ⟨gb, 0, none⟩ = some (.int .i64 x.f0) := (bC_ BK.out 0).trans rfl; have hcx1 : w2.cell? ⟨gb, 1, none⟩ = some (.int .i64 x.f1) := (bC_ BK.out 1).trans rfl; have hcx2 : w2.cell? ⟨gb, 2, none⟩ = some (.int .i64 x.f2) := (bC_ BK.out 2).trans rfl; have hcx3 : w2.cell? ⟨gb, 3, none⟩ = some (.slice A x.f3.length c) := (bC_ BK.out 3).trans rfl) | (go_at_call 31; refine (impl_InRange.calls x.f0 2 6 true _ hin).mono ?_; rintro e w' ⟨rfl, ⟨nd, rfl⟩⟩))
      clear hz hin
      (try clear hcx0 hcx1 hcx2 hcx3)
      (try clear hcw0 hcw1 hcw2 hcw3)
      go_loopg [1, 30] x.f3.length (fun gg v0 v6 w' => ∃ (a' b : List S29) (l : List S29), Aside0 (x.f3 = a' ++ b) ∧ b.length ≤ gg ∧ v6 = .int .i64 (a'.length : Int) ∧ Aside0 (b.foldlM (fun l y => impl_LeavesOf.g k y l) l = some r) ∧ Aside0 (Kd.S k29 29 w' w0.heap.size (fun j => (P j ∨ w.heap.size ≤ j) ∧ j ≠ gb) v0 l) ∧ Aside0 (w'.heap[gb]? = some (.cells #[.int .i64 x.f0, .int .i64 x.f1, .int .i64 x.f2, .slice A x.f3.length c] 29 (0, 0))) ∧ Aside0 (Kept w w' P) ∧ Aside0 (Below w0.heap.size w0 w'))
      case atStart => exact ⟨[], x.f3, _, ⟨rfl⟩, Nat.le_refl _, rfl, HR, ⟨(Kd.S_mono (Kd.S_drewN HS.out _) (fun j hj => ⟨.inl hj.1, hj.2⟩))⟩, ⟨(blk_drewN BK.out _)⟩, ⟨(Kept.drewN HK.out _)⟩, ⟨(bN_ HB.out _)⟩⟩
      case round =>
        clear HR
        (try clear HS)
        (try clear BK)
        (try clear HK)
        (try clear HB)
        obtain ⟨a', b, l, hl, hgg, rfl, HR, HS, BK, HK, HB⟩ := hrel
        cases b with
        | nil =>
          have hd : decide ((a'.length : Int) < (x.f3.length : Int)) = false := decide_eq_false (by rw [hl.out]; simp)
          have hd2 : ((a'.length : Int) < (x.f3.length : Int)) = False := eq_false (by rw [hl.out]; simp)
          have hd3 : (a'.length < x.f3.length) = False := eq_false (by rw [hl.out]; simp)
          have hr := HR.out
          obtain rfl := Option.some.inj hr
          clear hr
          go_wp2
          go_ret
          exact ⟨_, rfl, Kd.S_mono HS.out (fun j hj => hj.1), HK.out, HB.out⟩
        | cons y b =>
          have hlt : (a'.length : Int) < (x.f3.length : Int) := by rw [hl.out]; simp; omega
          have hd : decide ((a'.length : Int) < (x.f3.length : Int)) = true := decide_eq_true hlt
          have hxx : rd_T29 x.f3 (a'.length : Int) = y := by
            unfold rd_T29
            rw [Int.toNat_natCast, hl.out, List.getD_eq_getElem?_getD, List.getElem?_append_right (Nat.le_refl _), Nat.sub_self]
            rfl
          obtain ⟨ad2, A2, c2, e2, hx0, hx1, hx2, hx3, hl2, hi2⟩ := at_T29 HX.out (a'.length : Int) (by omega) hlt
          have HI2 := Aside0.mk (hxx ▸ hi2 : Kd.C k29 w0 A2 y.f3.length y.f3)
          have HL2 := Aside0.mk (hxx ▸ hl2 : y.f3.length ≤ c2)
          clear hi2 hl2
          rw [hxx] at hx0 hx1 hx2 hx3
          cases e2
          replace hx0 := (HB.out.cell (World.block_lt_of_cell? w0 _ hx0)).trans hx0
          replace hx1 := (HB.out.cell (World.block_lt_of_cell? w0 _ hx1)).trans hx1
          replace hx2 := (HB.out.cell (World.block_lt_of_cell? w0 _ hx2)).trans hx2
          replace hx3 := (HB.out.cell (World.block_lt_of_cell? w0 _ hx3)).trans hx3
          have hlt' := eq_true hlt
          simp only [Int.toNat_natCast] at hx0 hx1 hx2 hx3
          cases gk with
          | zero => exact absurd hgg (by simp)
          | succ g1 =>
          have hr := HR.out
          clear HR
          rw [List.foldlM_cons] at hr
          cases hy : impl_LeavesOf.g k y l with
          | none => rw [hy] at hr; cases hr
          | some l1 =>
          rw [hy] at hr
          have HY := Aside0.mk hy
          have HR : Aside0 (b.foldlM (fun l y => impl_LeavesOf.g k y l) l1 = some r) := ⟨hr⟩
          clear hy hr
          go_wp2_with (first | ((with_reducible refine gate_dst (N := 6) rfl ?_); refine box_event ?hg (N := 6) ?hd (cs := #[.int .i64 0, .int .i64 0, .int .i64 0, .slice none 0 0]) (t := 29) ?hr ?_; (case hd => rfl); (case hg => rfl); (case hr => first | (go_simp; done) | (go_simp; rfl)); intro ga hg w5 hbox hb; have BA := Aside0.mk hbox; have GA := Aside0.mk (And.intro (by rw [hg]; exact HK.out.1 : w.heap.size ≤ ga) (by rw [hg]; exact below_size HB.out : w0.heap.size ≤ ga)); have NE := Aside0.mk (by have := blk_lt BK.out; omega : gb ≠ ga); have HS5 := Aside0.mk (Kd.S_below (Kd.S_elderB HS.out ga (Nat.le_of_eq hg.symm)) hb); have BK5 := Aside0.mk (blk_below BK.out hb); have HK5 := Aside0.mk (HK.out.below hb); have HB5 := Aside0.mk (below_step HB.out hb); clear HS HB HK BK hbox hb hg; have hca0 : w5.cell? ⟨ga, 0, none⟩ = some (.int .i64 0) := (bC_ BA.out 0).trans rfl; have hca1 : w5.cell? ⟨ga, 1, none⟩ = some (.int .i64 0) := (bC_ BA.out 1).trans rfl; have hca2 : w5.cell? ⟨ga, 2, none⟩ = some (.int .i64 0) := (bC_ BA.out 2).trans rfl; have hca3 : w5.cell? ⟨ga, 3, none⟩ = some (.slice none 0 0) := (bC_ BA.out 3).trans rfl; have hfa0 := bF_ BA.out 0; have hfa1 := bF_ BA.out 1; have hfa2 := bF_ BA.out 2; have hfa3 := bF_ BA.out 3) | (go_at_call 26; have hb6 : Below w0.heap.size w0 ((((w5.setCell ⟨ga, 0, none⟩ (.int .i64 y.f0)).setCell ⟨ga, 1, none⟩ (.int .i64 y.f1)).setCell ⟨ga, 2, none⟩ (.int .i64 y.f2)).setCell ⟨ga, 3, none⟩ (.slice A2 y.f3.length c2)) := bS_ (bS_ (bS_ (bS_ HB5.out GA.out.2) GA.out.2) GA.out.2) GA.out.2; have hk6 : Kept w ((((w5.setCell ⟨ga, 0, none⟩ (.int .i64 y.f0)).setCell ⟨ga, 1, none⟩ (.int .i64 y.f1)).setCell ⟨ga, 2, none⟩ (.int .i64 y.f2)).setCell ⟨ga, 3, none⟩ (.slice A2 y.f3.length c2)) P := Kept.setCell (Kept.setCell (Kept.setCell (Kept.setCell HK5.out (.inr GA.out.1) _) (.inr GA.out.1) _) (.inr GA.out.1) _) (.inr GA.out.1) _; have hs6 := Kd.S_far (p := ⟨ga, 3, none⟩) (Kd.S_far (p := ⟨ga, 2, none⟩) (Kd.S_far (p := ⟨ga, 1, none⟩) (Kd.S_far (p := ⟨ga, 0, none⟩) HS5.out (fun _ hk => hk.2) (.int .i64 y.f0)) (fun _ hk => hk.2) (.int .i64 y.f1)) (fun _ hk => hk.2) (.int .i64 y.f2)) (fun _ hk => hk.2) (.slice A2 y.f3.length c2); have bk6 : ((((w5.setCell ⟨ga, 0, none⟩ (.int .i64 y.f0)).setCell ⟨ga, 1, none⟩ (.int .i64 y.f1)).setCell ⟨ga, 2, none⟩ (.int .i64 y.f2)).setCell ⟨ga, 3, none⟩ (.slice A2 y.f3.length c2)).heap[gb]? = some (.cells #[.int .i64 x.f0, .int .i64 x.f1, .int .i64 x.f2, .slice _ x.f3.length c] 29 (0, 0)) := blk_far (blk_far (blk_far (blk_far BK5.out NE.out _) NE.out _) NE.out _) NE.out _; refine (ih l _ y _ _ l1 (fun j => ((P j ∨ w.heap.size ≤ j) ∧ j ≠ gb) ∧ j ≠ ga) w0 ((((w5.setCell ⟨ga, 0, none⟩ (.int .i64 y.f0)).setCell ⟨ga, 1, none⟩ (.int .i64 y.f1)).setCell ⟨ga, 2, none⟩ (.int .i64 y.f2)).setCell ⟨ga, 3, none⟩ (.slice A2 y.f3.length c2)) hb6 hs6 HI2.out HL2.out HY.out).mono ?_; rintro e w7 ⟨v3, rfl, hs3, hk3, hb3⟩; have HS3 := Aside0.mk (Kd.S_mono hs3 (ok' := fun j => (P j ∨ w.heap.size ≤ j) ∧ j ≠ gb) (fun j hj => hj.elim (fun q => q.1) (fun q => ⟨.inr (Nat.le_trans hk6.1 q), fun e => by have := blk_lt bk6; omega⟩))); have BK3 := Aside0.mk (blk_kept bk6 hk3 (fun q => q.1.2 rfl)); have HK3 := Aside0.mk (hk6.then_ hk3 (fun j hj => hj.1.1)); have HB3 := Aside0.mk hb3; clear hs3 hk3 hb3 hb6 hk6 hs6 bk6))
          go_roundg g1
          case measure => omega
          case rel => exact ⟨a' ++ [y], b, l1, ⟨by rw [hl.out]; simp⟩, by simp at hgg; omega, by have := HX0.out; rw [List.length_append]; unfold wrap64; rw [hl.out] at this; simp at this ⊢; omega, HR, HS3, BK3, HK3, HB3⟩
  · rw [decide_eq_false c0] at hin
    rw [if_neg (fun q => c0 ⟨q.1, q.2.1⟩), Option.bind_some] at h
    have HR := Aside0.mk h
    clear h c0
    go_enter Try.func26, Try.ntmps26
    go_wp2_with (first | ((with_reducible refine gate_dst (N := 2) rfl ?_); refine box_event ?hg (N := 2) ?hd (cs := #[.int .i64 x.f0, .int .i64 x.f1, .int .i64 x.f2, .slice A x.f3.length c]) (t := 29) ?hr ?_; (case hd => rfl); (case hg => rfl); (case hr => first | (go_simp; done) | (go_simp; rfl)); intro gb hg w2 hbox hb; have BK := Aside0.mk hbox; have GB := Aside0.mk ((by rw [hg]; exact Nat.le_refl _ : w.heap.size ≤ gb)); have HS2 := Aside0.mk (Kd.S_below (Kd.S_elderB HS.out gb (Nat.le_of_eq hg.symm)) hb); have HK := Aside0.mk (Kept.of_below hb P); have HB2 := Aside0.mk (below_step HB.out hb); clear HS HB; have HS := HS2; have HB := HB2; clear HS2 HB2 hbox hb hg; have hcx0 : w2.cell? ⟨gb, 0, none⟩ = some (.int .i64 x.f0) := (bC_ BK.out 0).trans rfl; have hcx1 : w2.cell? ⟨gb, 1, none⟩ = some (.int .i64 x.f1) := (bC_ BK.out 1).trans rfl; have hcx2 : w2.cell? ⟨gb, 2, none⟩ = some (.int .i64 x.f2) := (bC_ BK.out 2).trans rfl; have hcx3 : w2.cell? ⟨gb, 3, none⟩ = some (.slice A x.f3.length c) := (bC_ BK.out 3).trans rfl) | (go_at_call 31; refine (impl_InRange.calls x.f0 2 6 false _ hin).mono ?_; rintro e w' ⟨rfl, ⟨nd, rfl⟩⟩))
    clear hin
    (try clear hcx0 hcx1 hcx2 hcx3)
    (try clear hcw0 hcw1 hcw2 hcw3)
    go_loopg [1, 30] x.f3.length (fun gg v0 v6 w' => ∃ (a' b : List S29) (l : List S29), Aside0 (x.f3 = a' ++ b) ∧ b.length ≤ gg ∧ v6 = .int .i64 (a'.length : Int) ∧ Aside0 (b.foldlM (fun l y => impl_LeavesOf.g k y l) l = some r) ∧ Aside0 (Kd.S k29 29 w' w0.heap.size (fun j => (P j ∨ w.heap.size ≤ j) ∧ j ≠ gb) v0 l) ∧ Aside0 (w'.heap[gb]? = some (.cells #[.int .i64 x.f0, .int .i64 x.f1, .int .i64 x.f2, .slice A x.f3.length c] 29 (0, 0))) ∧ Aside0 (Kept w w' P) ∧ Aside0 (Below w0.heap.size w0 w'))
    case atStart => exact ⟨[], x.f3, _, ⟨rfl⟩, Nat.le_refl _, rfl, HR, ⟨(Kd.S_mono (Kd.S_drewN HS.out _) (fun j hj => ⟨.inl hj.1, hj.2⟩))⟩, ⟨(blk_drewN BK.out _)⟩, ⟨(Kept.drewN HK.out _)⟩, ⟨(bN_ HB.out _)⟩⟩
    case round =>
      clear HR
      (try clear HS)
      (try clear BK)
      (try clear HK)
      (try clear HB)
      obtain ⟨a', b, l, hl, hgg, rfl, HR, HS, BK, HK, HB⟩ := hrel
      cases b with
      | nil =>
        have hd : decide ((a'.length : Int) < (x.f3.length : Int)) = false := decide_eq_false (by rw [hl.out]; simp)
        have hd2 : ((a'.length : Int) < (x.f3.length : Int)) = False := eq_false (by rw [hl.out]; simp)
        have hd3 : (a'.length < x.f3.length) = False := eq_false (by rw [hl.out]; simp)
        have hr := HR.out
        obtain rfl := Option.some.inj hr
        clear hr
        go_wp2
        go_ret
        exact ⟨_, rfl, Kd.S_mono HS.out (fun j hj => hj.1), HK.out, HB.out⟩
      | cons y b =>
        have hlt : (a'.length : Int) < (x.f3.length : Int) := by rw [hl.out]; simp; omega
        have hd : decide ((a'.length : Int) < (x.f3.length : Int)) = true := decide_eq_true hlt
        have hxx : rd_T29 x.f3 (a'.length : Int) = y := by
          unfold rd_T29
          rw [Int.toNat_natCast, hl.out, List.getD_eq_getElem?_getD, List.getElem?_append_right (Nat.le_refl _), Nat.sub_self]
          rfl
        obtain ⟨ad2, A2, c2, e2, hx0, hx1, hx2, hx3, hl2, hi2⟩ := at_T29 HX.out (a'.length : Int) (by omega) hlt
        have HI2 := Aside0.mk (hxx ▸ hi2 : Kd.C k29 w0 A2 y.f3.length y.f3)
        have HL2 := Aside0.mk (hxx ▸ hl2 : y.f3.length ≤ c2)
        clear hi2 hl2
        rw [hxx] at hx0 hx1 hx2 hx3
        cases e2
        replace hx0 := (HB.out.cell (World.block_lt_of_cell? w0 _ hx0)).trans hx0
        replace hx1 := (HB.out.cell (World.block_lt_of_cell? w0 _ hx1)).trans hx1
        replace hx2 := (HB.out.cell (World.block_lt_of_cell? w0 _ hx2)).trans hx2
        replace hx3 := (HB.out.cell (World.block_lt_of_cell? w0 _ hx3)).trans hx3
        have hlt' := eq_true hlt
        simp only [Int.toNat_natCast] at hx0 hx1 hx2 hx3
        cases gk with
        | zero => exact absurd hgg (by simp)
        | succ g1 =>
        have hr := HR.out
        clear HR
        rw [List.foldlM_cons] at hr
        cases hy : impl_LeavesOf.g k y l with
        | none => rw [hy] at hr; cases hr
        | some l1 =>
        rw [hy] at hr
        have HY := Aside0.mk hy
        have HR : Aside0 (b.foldlM (fun l y => impl_LeavesOf.g k y l) l1 = some r) := ⟨hr⟩
        clear hy hr
        go_wp2_with (first | ((with_reducible refine gate_dst (N := 6) rfl ?_); refine box_event ?hg (N := 6) ?hd (cs := #[.int .i64 0, .int .i64 0, .int .i64 0, .slice none 0 0]) (t := 29) ?hr ?_; (case hd => rfl); (case hg => rfl); (case hr => first | (go_simp; done) | (go_simp; rfl)); intro ga hg w5 hbox hb; have BA := Aside0.mk hbox; have GA := Aside0.mk (And.intro (by rw [hg]; exact HK.out.1 : w.heap.size ≤ ga) (by rw [hg]; exact below_size HB.out : w0.heap.size ≤ ga)); have NE := Aside0.mk (by have := blk_lt BK.out; omega : gb ≠ ga); have HS5 := Aside0.mk (Kd.S_below (Kd.S_elderB HS.out ga (Nat.le_of_eq hg.symm)) hb); have BK5 := Aside0.mk (blk_below BK.out hb); have HK5 := Aside0.mk (HK.out.below hb); have HB5 := Aside0.mk (below_step HB.out hb); clear HS HB HK BK hbox hb hg; have hca0 : w5.cell? ⟨ga, 0, none⟩ = some (.int .i64 0) := (bC_ BA.out 0).trans rfl; have hca1 : w5.cell? ⟨ga, 1, none⟩ = some (.int .i64 0) := (bC_ BA.out 1).trans rfl; have hca2 : w5.cell? ⟨ga, 2, none⟩ = some (.int .i64 0) := (bC_ BA.out 2).trans rfl; have hca3 : w5.cell? ⟨ga, 3, none⟩ = some (.slice none 0 0) := (bC_ BA.out 3).trans rfl; have hfa0 := bF_ BA.out 0; have hfa1 := bF_ BA.out 1; have hfa2 := bF_ BA.out 2; have hfa3 := bF_ BA.out 3) | (go_at_call 26; have hb6 : Below w0.heap.size w0 ((((w5.setCell ⟨ga, 0, none⟩ (.int .i64 y.f0)).setCell ⟨ga, 1, none⟩ (.int .i64 y.f1)).setCell ⟨ga, 2, none⟩ (.int .i64 y.f2)).setCell ⟨ga, 3, none⟩ (.slice A2 y.f3.length c2)) := bS_ (bS_ (bS_ (bS_ HB5.out GA.out.2) GA.out.2) GA.out.2) GA.out.2; have hk6 : Kept w ((((w5.setCell ⟨ga, 0, none⟩ (.int .i64 y.f0)).setCell ⟨ga, 1, none⟩ (.int .i64 y.f1)).setCell ⟨ga, 2, none⟩ (.int .i64 y.f2)).setCell ⟨ga, 3, none⟩ (.slice A2 y.f3.length c2)) P := Kept.setCell (Kept.setCell (Kept.setCell (Kept.setCell HK5.out (.inr GA.out.1) _) (.inr GA.out.1) _) (.inr GA.out.1) _) (.inr GA.out.1) _; have hs6 := Kd.S_far (p := ⟨ga, 3, none⟩) (Kd.S_far (p := ⟨ga, 2, none⟩) (Kd.S_far (p := ⟨ga, 1, none⟩) (Kd.S_far (p := ⟨ga, 0, none⟩) HS5.out (fun _ hk => hk.2) (.int .i64 y.f0)) (fun _ hk => hk.2) (.int .i64 y.f1)) (fun _ hk => hk.2) (.int .i64 y.f2)) (fun _ hk => hk.2) (.slice A2 y.f3.length c2); have bk6 : ((((w5.setCell ⟨ga, 0, none⟩ (.int .i64 y.f0)).setCell ⟨ga, 1, none⟩ (.int .i64 y.f1)).setCell ⟨ga, 2, none⟩ (.int .i64 y.f2)).setCell ⟨ga, 3, none⟩ (.slice A2 y.f3.length c2)).heap[gb]? = some (.cells #[.int .i64 x.f0, .int .i64 x.f1, .int .i64 x.f2, .slice _ x.f3.length c] 29 (0, 0)) := blk_far (blk_far (blk_far (blk_far BK5.out NE.out _) NE.out _) NE.out _) NE.out _; refine (ih l _ y _ _ l1 (fun j => ((P j ∨ w.heap.size ≤ j) ∧ j ≠ gb) ∧ j ≠ ga) w0 ((((w5.setCell ⟨ga, 0, none⟩ (.int .i64 y.f0)).setCell ⟨ga, 1, none⟩ (.int .i64 y.f1)).setCell ⟨ga, 2, none⟩ (.int .i64 y.f2)).setCell ⟨ga, 3, none⟩ (.slice A2 y.f3.length c2)) hb6 hs6 HI2.out HL2.out HY.out).mono ?_; rintro e w7 ⟨v3, rfl, hs3, hk3, hb3⟩; have HS3 := Aside0.mk (Kd.S_mono hs3 (ok' := fun j => (P j ∨ w.heap.size ≤ j) ∧ j ≠ gb) (fun j hj => hj.elim (fun q => q.1) (fun q => ⟨.inr (Nat.le_trans hk6.1 q), fun e => by have := blk_lt bk6; omega⟩))); have BK3 := Aside0.mk (blk_kept bk6 hk3 (fun q => q.1.2 rfl)); have HK3 := Aside0.mk (hk6.then_ hk3 (fun j hj => hj.1.1)); have HB3 := Aside0.mk hb3; clear hs3 hk3 hb3 hb6 hk6 hs6 bk6))
        go_roundg g1
        case measure => omega
        case rel => exact ⟨a' ++ [y], b, l1, ⟨by rw [hl.out]; simp⟩, by simp at hgg; omega, by have := HX0.out; rw [List.length_append]; unfold wrap64; rw [hl.out] at this; simp at this ⊢; omega, HR, HS3, BK3, HK3, HB3⟩
set_option maxHeartbeats 8000000 in
set_option maxRecDepth 100000 in
theorem impl_LeavesOf.calls (k : Nat) (a0_0 : Int) (a0_1 : Int) (a0_2 : Int) (A0_3 : Option Addr) (c0_3 : Nat) (l0_3 : List S29) (r : List S29) (w : World) (hr0_3 : Kd.C k29 w A0_3 l0_3.length l0_3) (hc0_3 : l0_3.length ≤ c0_3) (h : impl_LeavesOf.f k a0_0 a0_1 a0_2 l0_3 = some r) :
    Calls Try.prog 8 #[.agg #[.int .i64 a0_0, .int .i64 a0_1, .int .i64 a0_2, .slice A0_3 l0_3.length c0_3]] w fun e w' => ∃ v0_ : Value, e = .returned (v0_) ∧ Kd.S k29 29 w' w.heap.size (fun _ => True) v0_ r ∧ Below w.heap.size w w' := by
  have HX := Aside0.mk hr0_3
  have HC := Aside0.mk hc0_3
  have HH := Aside0.mk h
  clear hr0_3 hc0_3 h
  have HB := Aside0.mk (Below.refl w.heap.size w)
  go_enter Try.func8, Try.ntmps8
  go_wp2_with (first | ((with_reducible refine gate_dst (N := 1) rfl ?_); refine box_event ?hg (N := 1) ?hd (cs := #[.int .i64 a0_0, .int .i64 a0_1, .int .i64 a0_2, .slice A0_3 l0_3.length c0_3]) (t := 29) ?hr ?_; (case hd => rfl); (case hg => rfl); (case hr => first | (go_simp; done) | (go_simp; rfl)); intro gb hg w2 hbox hb; have BK := Aside0.mk hbox; have HB2 := Aside0.mk (below_step HB.out hb); clear HB hbox hb hg; have hcx0 : w2.cell? ⟨gb, 0, none⟩ = some (.int .i64 a0_0) := (bC_ BK.out 0).trans rfl; have hcx1 : w2.cell? ⟨gb, 1, none⟩ = some (.int .i64 a0_1) := (bC_ BK.out 1).trans rfl; have hcx2 : w2.cell? ⟨gb, 2, none⟩ = some (.int .i64 a0_2) := (bC_ BK.out 2).trans rfl; have hcx3 : w2.cell? ⟨gb, 3, none⟩ = some (.slice A0_3 l0_3.length c0_3) := (bC_ BK.out 3).trans rfl) | ((with_reducible refine gate_dst (N := 4) rfl ?_); refine Kd.S_lit k29 (w0 := w) w.heap.size 29 ?hg (N := 4) ?hd (xs := ([] : List S29)) (inner := []) (ok := fun _ => True) (okp := fun _ => True) ?hr ?hp (fun _ hk => hk) trivial HB2.out (below_size HB2.out) (by simp) ?_; (case hd => rfl); (case hg => rfl); (case hr => first | (go_simp; done) | (go_simp; rfl)); (case hp => exact (Reps.none _ _)); intro v123 w3 hs3 hb3 hg3 hn3; have HS3 := Aside0.mk hs3; have HB3 := Aside0.mk hb3; have BK3 := Aside0.mk (blk_grown BK.out hg3 (by simp)); clear hs3 hb3 hg3 hn3; have hcz0 : w3.cell? ⟨gb, 0, none⟩ = some (.int .i64 a0_0) := (bC_ BK3.out 0).trans rfl; have hcz1 : w3.cell? ⟨gb, 1, none⟩ = some (.int .i64 a0_1) := (bC_ BK3.out 1).trans rfl; have hcz2 : w3.cell? ⟨gb, 2, none⟩ = some (.int .i64 a0_2) := (bC_ BK3.out 2).trans rfl; have hcz3 : w3.cell? ⟨gb, 3, none⟩ = some (.slice A0_3 l0_3.length c0_3) := (bC_ BK3.out 3).trans rfl) | (go_at_call 26; refine (impl_LeavesOf.run k [] v123 ⟨a0_0, a0_1, a0_2, l0_3⟩ A0_3 c0_3 r (fun _ => True) w w3 HB3.out HS3.out HX.out HC.out HH.out).mono ?_; rintro e w4 ⟨v4, rfl, hs4, hk4, hb4⟩; have HS4 := Aside0.mk (Kd.S_mono hs4 (ok' := fun _ => True) (fun _ _ => trivial)); have HB4 := Aside0.mk hb4; clear hs4 hk4 hb4))
  go_ret
  exact ⟨_, rfl, HS4.out, HB4.out⟩

/-! ### laws_big: function 14 -/
def laws_big.f (l0 : List Int) : Option (Bool) := some (decide ((l0.length : Int) > 1048576))
set_option maxHeartbeats 8000000 in
set_option maxRecDepth 100000 in
theorem laws_big.calls (A0 : Option Addr) (c0 : Nat) (l0 : List Int) (r : Bool) (w : World) (hr0 : Kd.C (Kd.int .u8) w A0 l0.length l0) (hc0 : l0.length ≤ c0) (h : laws_big.f l0 = some r) :
    Calls Try.prog 14 #[.slice A0 l0.length c0] w fun e w' => e = .returned (.bool r) ∧ Drawn0 w w' := by
  have HR0 := Aside0.mk hr0
  have HC0 := Aside0.mk hc0
  clear hr0 hc0
  have H : (some (decide ((l0.length : Int) > 1048576))) = some r := h
  clear h
  obtain rfl := Option.some.inj H
  go_enter Try.func14, Try.ntmps14
  go_wp2
  go_ret
  exact ⟨by first | rfl | (simp; done) | (simp [*]; done), by repeat (first | exact Drawn0.refl _ | apply Drawn0.step)⟩

/-! ### spec_l15Copy: function 34 -/
mutual
def spec_l15Copy.l0 : Nat → Int → Int → Int → Int → List (S29) → Int → Int → Int → List (S29) → Option (Int × Int × Int × (List (S29)))
  | 0, _, _, _, _, _, _, _, _, _ => none
  | k + 1, x4, x124000, x124001, x124002, x124003, x126000, x126001, x126002, x126003 => if x4 < (x124003.length : Int) then (if 0 ≤ x4 then ((spec_l15Copy.f k ((rd_T29 x124003 x4).f0) ((rd_T29 x124003 x4).f1) ((rd_T29 x124003 x4).f2) ((rd_T29 x124003 x4).f3)).bind fun bt127 => (if x126003.length < 2932031007402 then (spec_l15Copy.l0 k (wrap64 (x4 + 1)) x124000 x124001 x124002 x124003 x126000 x126001 x126002 (x126003 ++ [(⟨bt127.1, bt127.2.1, bt127.2.2.1, bt127.2.2.2⟩ : S29)])) else (none))) else (none)) else (some (x126000, x126001, x126002, x126003))
def spec_l15Copy.f : Nat → Int → Int → Int → List (S29) → Option (Int × Int × Int × (List (S29)))
  | 0, _, _, _, _ => none
  | k + 1, a0_0, a0_1, a0_2, l0_3 => spec_l15Copy.l0 k 0 a0_0 a0_1 a0_2 l0_3 a0_0 a0_1 a0_2 ([] : List (S29))
end
def spec_l15Copy.T5 : Bool × List (List Nat × List Nat) := (true, [([], []), ([0], [0]), ([], []), ([2], [2]), ([], []), ([3, 4], [3, 4]), ([5], [5]), ([6], [6]), ([7], [7]), ([1, 8, 7], [1, 8]), ([0, 1, 2, 3, 4, 5, 6, 7, 8, 9], []), ([10, 9, 9, 0, 1, 2, 3, 4, 5, 6, 7, 8, 9], [9, 10])])
def spec_l15Copy.B5 : List Nat := [0, 1, 0, 4, 0, 28, 60, 124, 252, 511, 1023, 2047]
theorem spec_l15Copy.tab5 : rtab .any (opsOf Try.f34 5) = spec_l15Copy.T5 := by kernel_rfl
theorem spec_l15Copy.bits5 : waitsOk spec_l15Copy.T5.2 spec_l15Copy.B5 = true := by kernel_rfl
theorem pB34_ {P Q : Prop} (h : P) (g : P → Q := by intro h_; (with_reducible repeat (first | refine blk_drewN ?_ _ | refine blk_drew ?_ | refine blk_alloc ?_ _)); exact h_) : Q := g h
theorem z34_0 {Q : Prop} (g : Q := by repeat (first | (with_reducible first | exact HB.out | apply bA_ | apply bN_ | apply bD_ | refine bS_ ?_ GE123.out | refine bS_ ?_ GE124.out | refine bS_ ?_ GE125.out) | exact HB.out)) : Q := g
theorem z34_1 {Q : Prop} (g : Q := by repeat (first | (with_reducible first | exact HB.out | apply bA_ | apply bN_ | apply bD_ | refine bS_ ?_ GE123.out | refine bS_ ?_ GE124.out) | exact HB.out)) : Q := g
theorem z34_2 {Q : Prop} (g : Q := by repeat (first | (with_reducible first | exact HB.out | apply bA_ | apply bN_ | apply bD_ | refine bS_ ?_ GE123.out) | exact HB.out)) : Q := g
theorem z34_3 {Q : Prop} (g : Q := by (with_reducible repeat (first | apply Kd.S_alloc | apply Kd.S_drewN | apply Kd.S_drew)); exact HO_126003.out) : Q := g
theorem z34_4 {Q : Prop} (g : Q := by repeat (first | (with_reducible first | exact HB.out | apply bA_ | apply bN_ | apply bD_) | exact HB.out)) : Q := g
set_option maxHeartbeats 8000000 in
set_option maxRecDepth 100000 in
theorem spec_l15Copy.calls (k : Nat) : ∀ (a0_0 : Int) (a0_1 : Int) (a0_2 : Int) (A0_3 : Option Addr) (c0_3 : Nat) (l0_3 : List (S29)) (r1 : Int) (r2 : Int) (r3 : Int) (r4 : List (S29)) (w : World) (hr0_3 : Kd.C k29 w A0_3 l0_3.length l0_3) (hc0_3 : l0_3.length ≤ c0_3) (h : spec_l15Copy.f k a0_0 a0_1 a0_2 l0_3 = some (r1, r2, r3, r4)),
    Calls Try.prog 34 #[.agg #[.int .i64 a0_0, .int .i64 a0_1, .int .i64 a0_2, .slice A0_3 l0_3.length c0_3]] w fun e w' => ∃ v3_ : Value, e = .returned (.agg #[.int .i64 r1, .int .i64 r2, .int .i64 r3, v3_]) ∧ Kd.S k29 29 w' w.heap.size (fun _ => True) v3_ r4 ∧ Below w.heap.size w w' := by
  induction k using Nat.strongRecOn with
  | _ k ih =>
  intro a0_0 a0_1 a0_2 A0_3 c0_3 l0_3 r1 r2 r3 r4 w hr0_3 hc0_3 h
  cases k with
  | zero => exact absurd h (by simp [spec_l15Copy.f])
  | succ k =>
  simp only [spec_l15Copy.f] at h
  have hu29 := Try.underlying29
  have HR0_3 := Aside0.mk hr0_3
  have HC0_3 := Aside0.mk hc0_3
  clear hr0_3 hc0_3
  have HB := Aside0.mk (Below.refl w.heap.size w)
  have H : (spec_l15Copy.l0 k 0 a0_0 a0_1 a0_2 l0_3 a0_0 a0_1 a0_2 ([] : List (S29))) = some (r1, r2, r3, r4) := h
  clear h
  have H' := Aside0.mk H
  clear H
  go_enter Try.func34, Try.ntmps34
  go_wp2_with (first | ((with_reducible refine gate_dst (N := 1) rfl ?_); refine box_event ?hg (N := 1) ?hd (cs := #[.int .i64 a0_0, .int .i64 a0_1, .int .i64 a0_2, .slice A0_3 l0_3.length c0_3]) (t := 29) ?hr ?_; (case hd => rfl); (case hg => rfl); (case hr => first | (go_simp; done) | (go_simp; rfl)); intro gb123 hg w2 hbox hb; have n0_ := Aside0.mk (below_step z34_4 hb); have n1_ := Aside0.mk (hbox); have n2_ := Aside0.mk ((by rw [hg]; exact (below_size z34_4) : w.heap.size ≤ gb123)); have n3_ := Aside0.mk ((by rw [hg]; exact (below_size z34_4) : w.heap.size ≤ gb123)); clear HB; have HB := n0_; have BK123 := n1_; have GW123 := n2_; have GE123 := n3_; clear n0_ n1_ n2_ n3_; clear hb hbox hg) | ((with_reducible refine gate_dst (N := 2) rfl ?_); refine box_event ?hg (N := 2) ?hd (cs := #[.int .i64 0, .int .i64 0, .int .i64 0, .slice none 0 0]) (t := 29) ?hr ?_; (case hd => rfl); (case hg => rfl); (case hr => first | (go_simp; done) | (go_simp; rfl)); intro gb124 hg w3 hbox hb; have n0_ := Aside0.mk (blk_below (g := gb123) (o := .cells #[.int .i64 a0_0, .int .i64 a0_1, .int .i64 a0_2, .slice A0_3 l0_3.length c0_3] 29 (0, 0)) (pB34_ BK123.out) hb); have n1_ := Aside0.mk (below_step z34_2 hb); have n2_ := Aside0.mk (hbox); have n3_ := Aside0.mk ((by rw [hg]; exact (below_size z34_2) : w.heap.size ≤ gb124)); have n4_ := Aside0.mk ((by rw [hg]; exact (below_size z34_2) : w.heap.size ≤ gb124)); have n5_ := Aside0.mk ((by rw [hg]; exact Nat.ne_of_lt (blk_lt (g := gb123) (o := .cells #[.int .i64 a0_0, .int .i64 a0_1, .int .i64 a0_2, .slice A0_3 l0_3.length c0_3] 29 (0, 0)) (pB34_ BK123.out)) : gb123 ≠ gb124)); have n6_ := Aside0.mk ((by rw [hg]; exact Nat.ne_of_gt (blk_lt (g := gb123) (o := .cells #[.int .i64 a0_0, .int .i64 a0_1, .int .i64 a0_2, .slice A0_3 l0_3.length c0_3] 29 (0, 0)) (pB34_ BK123.out)) : gb124 ≠ gb123)); clear BK123; clear HB; have BK123 := n0_; have HB := n1_; have BK124 := n2_; have GW124 := n3_; have GE124 := n4_; have NB123_124 := n5_; have NB124_123 := n6_; clear n0_ n1_ n2_ n3_ n4_ n5_ n6_; clear hb hbox hg; have hnb4 := NB123_124.out; have hnc4 := NB124_123.out; have hcz5_0 : w3.cell? ⟨gb123, 0, none⟩ = some (.int .i64 a0_0) := (bC_ BK123.out 0).trans rfl; have hcz5_1 : w3.cell? ⟨gb123, 1, none⟩ = some (.int .i64 a0_1) := (bC_ BK123.out 1).trans rfl; have hcz5_2 : w3.cell? ⟨gb123, 2, none⟩ = some (.int .i64 a0_2) := (bC_ BK123.out 2).trans rfl; have hcz5_3 : w3.cell? ⟨gb123, 3, none⟩ = some (.slice A0_3 l0_3.length c0_3) := (bC_ BK123.out 3).trans rfl; have hfz5_0 := bF_ BK123.out 0; have hfz5_1 := bF_ BK123.out 1; have hfz5_2 := bF_ BK123.out 2; have hfz5_3 := bF_ BK123.out 3) | ((with_reducible refine gate_dst (N := 3) rfl ?_); refine box_event ?hg (N := 3) ?hd (cs := #[.int .i64 0, .int .i64 0, .int .i64 0, .slice none 0 0]) (t := 29) ?hr ?_; (case hd => rfl); (case hg => rfl); (case hr => first | (go_simp; done) | (go_simp; rfl)); intro gb125 hg w6 hbox hb; have n0_ := Aside0.mk (blk_below (g := gb123) (o := .cells #[.int .i64 a0_0, .int .i64 a0_1, .int .i64 a0_2, .slice A0_3 l0_3.length c0_3] 29 (0, 0)) (pB34_ BK123.out) hb); have n1_ := Aside0.mk (blk_below (g := gb124) (o := .cells #[.int .i64 0, .int .i64 0, .int .i64 0, .slice none 0 0] 29 (0, 0)) (pB34_ BK124.out) hb); have n2_ := Aside0.mk (below_step z34_1 hb); have n3_ := Aside0.mk (hbox); have n4_ := Aside0.mk ((by rw [hg]; exact (below_size z34_1) : w.heap.size ≤ gb125)); have n5_ := Aside0.mk ((by rw [hg]; exact (below_size z34_1) : w.heap.size ≤ gb125)); have n6_ := Aside0.mk ((by rw [hg]; exact Nat.ne_of_lt (blk_lt (g := gb123) (o := .cells #[.int .i64 a0_0, .int .i64 a0_1, .int .i64 a0_2, .slice A0_3 l0_3.length c0_3] 29 (0, 0)) (pB34_ BK123.out)) : gb123 ≠ gb125)); have n7_ := Aside0.mk ((by rw [hg]; exact Nat.ne_of_gt (blk_lt (g := gb123) (o := .cells #[.int .i64 a0_0, .int .i64 a0_1, .int .i64 a0_2, .slice A0_3 l0_3.length c0_3] 29 (0, 0)) (pB34_ BK123.out)) : gb125 ≠ gb123)); have n8_ := Aside0.mk ((by rw [hg]; exact Nat.ne_of_lt (blk_lt (g := gb124) (o := .cells #[.int .i64 0, .int .i64 0, .int .i64 0, .slice none 0 0] 29 (0, 0)) (pB34_ BK124.out)) : gb124 ≠ gb125)); have n9_ := Aside0.mk ((by rw [hg]; exact Nat.ne_of_gt (blk_lt (g := gb124) (o := .cells #[.int .i64 0, .int .i64 0, .int .i64 0, .slice none 0 0] 29 (0, 0)) (pB34_ BK124.out)) : gb125 ≠ gb124)); clear BK123; clear BK124; clear HB; have BK123 := n0_; have BK124 := n1_; have HB := n2_; have BK125 := n3_; have GW125 := n4_; have GE125 := n5_; have NB123_125 := n6_; have NB125_123 := n7_; have NB124_125 := n8_; have NB125_124 := n9_; clear n0_ n1_ n2_ n3_ n4_ n5_ n6_ n7_ n8_ n9_; clear hb hbox hg; have hnb7 := NB125_123.out; have hnc7 := NB123_125.out; have hnb8 := NB125_124.out; have hnc8 := NB124_125.out; have hcz9_0 : w6.cell? ⟨gb125, 0, none⟩ = some (.int .i64 0) := (bC_ BK125.out 0).trans rfl; have hcz9_1 : w6.cell? ⟨gb125, 1, none⟩ = some (.int .i64 0) := (bC_ BK125.out 1).trans rfl; have hcz9_2 : w6.cell? ⟨gb125, 2, none⟩ = some (.int .i64 0) := (bC_ BK125.out 2).trans rfl; have hcz9_3 : w6.cell? ⟨gb125, 3, none⟩ = some (.slice none 0 0) := (bC_ BK125.out 3).trans rfl; have hfz9_0 := bF_ BK125.out 0; have hfz9_1 := bF_ BK125.out 1; have hfz9_2 := bF_ BK125.out 2; have hfz9_3 := bF_ BK125.out 3))
  go_loopg [4] k (fun kq v4 w' => ∃ (x4_1 : Int) (x126003_1 : List (S29)) (u126003 : Value), v4 = .int .i64 x4_1 ∧ Aside0 (spec_l15Copy.l0 kq x4_1 a0_0 a0_1 a0_2 l0_3 a0_0 a0_1 a0_2 x126003_1 = some (r1, r2, r3, r4)) ∧ Aside0 (kq ≤ k) ∧ Aside0 (Kd.S k29 29 w' w.heap.size (fun k_ => k_ ≠ gb123 ∧ k_ ≠ gb124 ∧ k_ ≠ gb125) u126003 x126003_1) ∧ Aside0 (w'.heap[gb123]? = some (.cells #[.int .i64 a0_0, .int .i64 a0_1, .int .i64 a0_2, (.slice A0_3 l0_3.length c0_3)] 29 (0, 0))) ∧ Aside0 (w'.heap[gb124]? = some (.cells #[.int .i64 0, .int .i64 0, .int .i64 0, (.slice none 0 0)] 29 (0, 0))) ∧ Aside0 (w'.heap[gb125]? = some (.cells #[.int .i64 a0_0, .int .i64 a0_1, .int .i64 a0_2, u126003] 29 (0, 0))) ∧ Aside0 (Below w.heap.size w w'))
  case atStart => exact ⟨(0), (([] : List (S29))), (.slice none 0 0), (by first | rfl | (simp; done) | (simp [*]; done)), H', ⟨Nat.le_refl _⟩, ⟨by first | exact Kd.S_nil _ _ _ _ _ | exact Kd.N_nil _ _ _ _ _ | exact Kd.V_nil _ _ _ _ _ | exact Kd.Q_nil _ _ _ _ _ | exact Kd.R_nil _ _ _ _ _⟩, ⟨by (with_reducible repeat (first | refine blk_drewN ?_ _ | refine blk_drew ?_ | refine blk_alloc ?_ _)); refine blk_far ?_ NB123_125.out _; (with_reducible repeat (first | refine blk_drewN ?_ _ | refine blk_drew ?_ | refine blk_alloc ?_ _)); refine blk_far ?_ NB123_125.out _; (with_reducible repeat (first | refine blk_drewN ?_ _ | refine blk_drew ?_ | refine blk_alloc ?_ _)); refine blk_far ?_ NB123_125.out _; (with_reducible repeat (first | refine blk_drewN ?_ _ | refine blk_drew ?_ | refine blk_alloc ?_ _)); refine blk_far ?_ NB123_125.out _; (with_reducible repeat (first | refine blk_drewN ?_ _ | refine blk_drew ?_ | refine blk_alloc ?_ _)); exact BK123.out⟩, ⟨by (with_reducible repeat (first | refine blk_drewN ?_ _ | refine blk_drew ?_ | refine blk_alloc ?_ _)); refine blk_far ?_ NB124_125.out _; (with_reducible repeat (first | refine blk_drewN ?_ _ | refine blk_drew ?_ | refine blk_alloc ?_ _)); refine blk_far ?_ NB124_125.out _; (with_reducible repeat (first | refine blk_drewN ?_ _ | refine blk_drew ?_ | refine blk_alloc ?_ _)); refine blk_far ?_ NB124_125.out _; (with_reducible repeat (first | refine blk_drewN ?_ _ | refine blk_drew ?_ | refine blk_alloc ?_ _)); refine blk_far ?_ NB124_125.out _; (with_reducible repeat (first | refine blk_drewN ?_ _ | refine blk_drew ?_ | refine blk_alloc ?_ _)); exact BK124.out⟩, ⟨by (with_reducible repeat (first | refine blk_drewN ?_ _ | refine blk_drew ?_ | refine blk_alloc ?_ _)); refine blk_put (cs := #[.int .i64 a0_0, .int .i64 a0_1, .int .i64 a0_2, .slice none 0 0]) ?_ 3 _ rfl; (with_reducible repeat (first | refine blk_drewN ?_ _ | refine blk_drew ?_ | refine blk_alloc ?_ _)); refine blk_put (cs := #[.int .i64 a0_0, .int .i64 a0_1, .int .i64 0, .slice none 0 0]) ?_ 2 _ rfl; (with_reducible repeat (first | refine blk_drewN ?_ _ | refine blk_drew ?_ | refine blk_alloc ?_ _)); refine blk_put (cs := #[.int .i64 a0_0, .int .i64 0, .int .i64 0, .slice none 0 0]) ?_ 1 _ rfl; (with_reducible repeat (first | refine blk_drewN ?_ _ | refine blk_drew ?_ | refine blk_alloc ?_ _)); refine blk_put (cs := #[.int .i64 0, .int .i64 0, .int .i64 0, .slice none 0 0]) ?_ 0 _ rfl; (with_reducible repeat (first | refine blk_drewN ?_ _ | refine blk_drew ?_ | refine blk_alloc ?_ _)); exact BK125.out⟩, ⟨by repeat (first | (with_reducible first | exact HB.out | apply bA_ | apply bN_ | apply bD_ | refine bS_ ?_ GE123.out | refine bS_ ?_ GE124.out | refine bS_ ?_ GE125.out) | exact HB.out)⟩⟩
  case round =>
    clear H'
    try clear p2
    try clear c3
    try clear c4
    try clear c7
    try clear c8
    try clear hcz5_0
    try clear hcz5_1
    try clear hcz5_2
    try clear hcz5_3
    try clear hcz9_0
    try clear hcz9_1
    try clear hcz9_2
    try clear hcz9_3
    try clear hfz5_0
    try clear hfz5_1
    try clear hfz5_2
    try clear hfz5_3
    try clear hfz9_0
    try clear hfz9_1
    try clear hfz9_2
    try clear hfz9_3
    obtain ⟨x4_1, x126003_1, u126003, rfl, HA, HK1, HO_126003, BK123, BK124, BK125, HB⟩ := hrel
    cases gk with
    | zero => exact absurd HA.out (by simp [spec_l15Copy.l0])
    | succ k1 =>
      have H := HA.out
      clear HA
      simp only [spec_l15Copy.l0] at H
      by_cases c10 : x4_1 < (l0_3.length : Int)
      · rw [if_pos c10] at H
        have c10b0 : decide (x4_1 < (l0_3.length : Int)) = true := decide_eq_true c10
        clear c10
        by_cases c11 : 0 ≤ x4_1
        · rw [if_pos c11] at H
          have c11b0 : decide (0 ≤ x4_1) = true := decide_eq_true c11
          clear c11
          replace H := Option.bind_eq_some_iff.mp H
          obtain ⟨⟨t127, t128, t129, t130⟩, A120, H⟩ := H
          replace H : (if x126003_1.length < 2932031007402 then (spec_l15Copy.l0 k1 (wrap64 (x4_1 + 1)) a0_0 a0_1 a0_2 l0_3 a0_0 a0_1 a0_2 (x126003_1 ++ [(⟨t127, t128, t129, t130⟩ : S29)])) else (none)) = some (r1, r2, r3, r4) := H
          have A12 := Aside0.mk A120
          clear A120
          by_cases c13 : x126003_1.length < 2932031007402
          · rw [if_pos c13] at H
            have LMc13 := Aside0.mk c13
            clear c13
            obtain ⟨y133, hy133⟩ : ∃ y_ : List (S29), y_ = (x126003_1 ++ [(⟨t127, t128, t129, t130⟩ : S29)]) := ⟨_, rfl⟩
            replace H : (spec_l15Copy.l0 k1 (wrap64 (x4_1 + 1)) a0_0 a0_1 a0_2 l0_3 a0_0 a0_1 a0_2 y133) = some (r1, r2, r3, r4) := by first | (rw [hy133]; with_reducible exact H) | (have H2_ := (Option.bind_some _ _).symm.trans H; rw [hy133]; with_reducible exact H2_) | (have H2_ := (Option.bind_some _ _).symm.trans H; with_reducible exact H2_) | with_reducible exact H | (rw [hy133]; exact H) | exact H
            have Ny133 := Aside0.mk hy133
            clear hy133
            have H' := Aside0.mk H
            clear H
            have hnb14 := NB123_124.out
            have hnc14 := NB124_123.out
            have hnb15 := NB123_125.out
            have hnc15 := NB125_123.out
            have hcz16_0 : wr.cell? ⟨gb123, 0, none⟩ = some (.int .i64 a0_0) := (bC_ BK123.out 0).trans rfl
            have hcz16_1 : wr.cell? ⟨gb123, 1, none⟩ = some (.int .i64 a0_1) := (bC_ BK123.out 1).trans rfl
            have hcz16_2 : wr.cell? ⟨gb123, 2, none⟩ = some (.int .i64 a0_2) := (bC_ BK123.out 2).trans rfl
            have hcz16_3 : wr.cell? ⟨gb123, 3, none⟩ = some (.slice A0_3 l0_3.length c0_3) := (bC_ BK123.out 3).trans rfl
            have hfz16_0 := bF_ BK123.out 0
            have hfz16_1 := bF_ BK123.out 1
            have hfz16_2 := bF_ BK123.out 2
            have hfz16_3 := bF_ BK123.out 3
            try go_wp2
            have n0_ := Aside0.mk (Kd.S_drew HO_126003.out)
            have n1_ := Aside0.mk (blk_drew BK123.out)
            have n2_ := Aside0.mk (blk_drew BK124.out)
            have n3_ := Aside0.mk (blk_drew BK125.out)
            have n4_ := Aside0.mk (bD_ HB.out)
            clear HO_126003
            clear BK123
            clear BK124
            clear BK125
            clear HB
            have HO_126003 := n0_
            have BK123 := n1_
            have BK124 := n2_
            have BK125 := n3_
            have HB := n4_
            clear n0_ n1_ n2_ n3_ n4_
            have p126 : 0 ≤ (x4_1 : Int) := of_decide_eq_true (by first | (with_reducible assumption) | assumption)
            have q126 : x4_1 < (l0_3.length : Int) := of_decide_eq_true (by first | (with_reducible assumption) | assumption)
            obtain ⟨ad126, A126_3, c126_3, e126, hx126_0, hx126_1, hx126_2, hx126_3, hl126_3, hi126_3⟩ := at_T29 HR0_3.out x4_1 p126 q126
            have hw126_3 := hx126_3
            have hw126_2 := hx126_2
            have hw126_1 := hx126_1
            have hw126_0 := hx126_0
            cases e126
            replace hx126_0 := (HB.out.cell (World.block_lt_of_cell? w _ hx126_0)).trans hx126_0
            replace hx126_1 := (HB.out.cell (World.block_lt_of_cell? w _ hx126_1)).trans hx126_1
            replace hx126_2 := (HB.out.cell (World.block_lt_of_cell? w _ hx126_2)).trans hx126_2
            replace hx126_3 := (HB.out.cell (World.block_lt_of_cell? w _ hx126_3)).trans hx126_3
            have HR126_3 := Aside0.mk hi126_3
            have HC126_3 := Aside0.mk hl126_3
            clear hi126_3 hl126_3
            replace p126 := eq_true p126
            replace q126 := eq_true q126
            refine start_ (n := 12) (S := fun w' => w'.cell? ⟨gb125, 0, none⟩ = some (.int .i64 a0_0) ∧ w'.cell? ⟨gb125, 1, none⟩ = some (.int .i64 a0_1) ∧ w'.cell? ⟨gb125, 2, none⟩ = some (.int .i64 a0_2) ∧ w'.cell? ⟨gb125, 3, none⟩ = some (u126003) ∧ w'.cell? ⟨gb123, 0, none⟩ = some (.int .i64 a0_0) ∧ w'.cell? ⟨gb123, 1, none⟩ = some (.int .i64 a0_1) ∧ w'.cell? ⟨gb123, 2, none⟩ = some (.int .i64 a0_2) ∧ w'.cell? ⟨gb123, 3, none⟩ = some (.slice (some ad126) l0_3.length c0_3) ∧ w'.cell? (ad126.add ((x4_1).toNat * 4)) = some (.int .i64 ((rd_T29 l0_3 x4_1).f0)) ∧ w'.cell? ⟨(ad126.add ((x4_1).toNat * 4)).block, (ad126.add ((x4_1).toNat * 4)).off + 1, none⟩ = some (.int .i64 ((rd_T29 l0_3 x4_1).f1)) ∧ w'.cell? ⟨(ad126.add ((x4_1).toNat * 4)).block, (ad126.add ((x4_1).toNat * 4)).off + 2, none⟩ = some (.int .i64 ((rd_T29 l0_3 x4_1).f2)) ∧ w'.cell? ⟨(ad126.add ((x4_1).toNat * 4)).block, (ad126.add ((x4_1).toNat * 4)).off + 3, none⟩ = some (.slice A126_3 ((rd_T29 l0_3 x4_1).f3).length c126_3)) (ds := [11]) #[false, false, false, false, false, false, false, false, false, false, false, false] (by kernel_rfl) rfl rfl ⟨(bC_ BK125.out 0).trans rfl, (bC_ BK125.out 1).trans rfl, (bC_ BK125.out 2).trans rfl, (bC_ BK125.out 3).trans rfl, (bC_ BK123.out 0).trans rfl, (bC_ BK123.out 1).trans rfl, (bC_ BK123.out 2).trans rfl, (bC_ BK123.out 3).trans rfl, ((HB.out.cell (World.block_lt_of_cell? w _ hw126_0)).trans hw126_0), ((HB.out.cell (World.block_lt_of_cell? w _ hw126_1)).trans hw126_1), ((HB.out.cell (World.block_lt_of_cell? w _ hw126_2)).trans hw126_2), ((HB.out.cell (World.block_lt_of_cell? w _ hw126_3)).trans hw126_3)⟩ (fun hHeld => ?_); refine with_tabW spec_l15Copy.tab5 spec_l15Copy.bits5 (fun HT_ HW_ => ?_)
            generalize wr.drew = w17 at HO_126003 BK123 BK124 BK125 HB HR126_3 hx126_0 hx126_1 hx126_2 hx126_3 hHeld ⊢
            refine pure_ (i := 0) (N := some 19) (v := ?_) (a' := ?_) #[true, false, false, false, false, false, false, false, false, false, false, false] rfl rfl (any_of HT_.out (by kernel_rfl)) (fun _ _ _ h => h) (Or.inl ⟨by rfl, ?_⟩) ?_ ?_
            rotate_left
            · intro w'
              go_simp
              with_reducible rfl
            rotate_left
            · simp only [Act.put, List.setIfInBounds_toArray, List.set_cons_zero, List.set_cons_succ, i64_w, i32_w]
              rfl
            refine pure_ (i := 2) (N := some 21) (v := ?_) (a' := ?_) #[true, false, true, false, false, false, false, false, false, false, false, false] rfl rfl (any_of HT_.out (by kernel_rfl)) (fun _ _ _ h => h) (Or.inl ⟨by rfl, ?_⟩) ?_ ?_
            rotate_left
            · intro w'
              go_simp
              with_reducible rfl
            rotate_left
            · simp only [Act.put, List.setIfInBounds_toArray, List.set_cons_zero, List.set_cons_succ, i64_w, i32_w]
              rfl
            refine pure_ (i := 4) (N := some 23) (v := ?_) (a' := ?_) #[true, false, true, false, true, false, false, false, false, false, false, false] rfl rfl (any_of HT_.out (by kernel_rfl)) (fun _ _ _ h => h) (Or.inl ⟨by rfl, ?_⟩) ?_ ?_
            rotate_left
            · intro w'
              go_simp
              with_reducible rfl
            rotate_left
            · simp only [Act.put, List.setIfInBounds_toArray, List.set_cons_zero, List.set_cons_succ, i64_w, i32_w]
              rfl
            refine take_ (i := 1) (N := some 20) (v := ?_) (a' := ?_) #[true, true, true, false, true, false, false, false, false, false, false, false] rfl rfl (take_ofW HT_.out HW_.out (by kernel_rfl)) (fun _ _ _ h => h) (Or.inl ⟨by rfl, ?_⟩) hHeld ?_ ?_
            rotate_left
            · rintro w' ⟨s0, s1, s2, s3, s4, s5, s6, s7, s8, s9, s10, s11⟩
              go_simp
              with_reducible rfl
            rotate_left
            · simp only [Act.put, List.setIfInBounds_toArray, List.set_cons_zero, List.set_cons_succ, i64_w, i32_w]
              rfl
            refine take_ (i := 3) (N := some 22) (v := ?_) (a' := ?_) #[true, true, true, true, true, false, false, false, false, false, false, false] rfl rfl (take_ofW HT_.out HW_.out (by kernel_rfl)) (fun _ _ _ h => h) (Or.inl ⟨by rfl, ?_⟩) hHeld ?_ ?_
            rotate_left
            · rintro w' ⟨s0, s1, s2, s3, s4, s5, s6, s7, s8, s9, s10, s11⟩
              go_simp
              with_reducible rfl
            rotate_left
            · simp only [Act.put, List.setIfInBounds_toArray, List.set_cons_zero, List.set_cons_succ, i64_w, i32_w]
              rfl
            refine pure_ (i := 5) (N := some 24) (v := ?_) (a' := ?_) #[true, true, true, true, true, true, false, false, false, false, false, false] rfl rfl (any_of HT_.out (by kernel_rfl)) (fun _ _ _ h => h) (Or.inl ⟨by rfl, ?_⟩) ?_ ?_
            rotate_left
            · intro w'
              go_simp
              with_reducible rfl
            rotate_left
            · simp only [Act.put, List.setIfInBounds_toArray, List.set_cons_zero, List.set_cons_succ, i64_w, i32_w]
              rfl
            refine take_ (i := 6) (N := some 25) (v := ?_) (a' := ?_) #[true, true, true, true, true, true, true, false, false, false, false, false] rfl rfl (take_ofW HT_.out HW_.out (by kernel_rfl)) (fun _ _ _ h => h) (Or.inl ⟨by rfl, ?_⟩) hHeld ?_ ?_
            rotate_left
            · rintro w' ⟨s0, s1, s2, s3, s4, s5, s6, s7, s8, s9, s10, s11⟩
              go_simp
              with_reducible rfl
            rotate_left
            · simp only [Act.put, List.setIfInBounds_toArray, List.set_cons_zero, List.set_cons_succ, i64_w, i32_w]
              rfl
            refine one_ (i := 7) (N := some 26) #[true, true, true, true, true, true, true, true, false, false, false, false] rfl rfl (one_of HT_.out (by kernel_rfl)) (by decide) (fun K hK => ?_)
            refine goes_ Try.func34 (by kernel_rfl) rfl #[.agg #[.int .i64 ((rd_T29 l0_3 x4_1).f0), .int .i64 ((rd_T29 l0_3 x4_1).f1), .int .i64 ((rd_T29 l0_3 x4_1).f2), .slice A126_3 ((rd_T29 l0_3 x4_1).f3).length c126_3]] (by rfl) rfl rfl (by (try simp only [List.map_toArray, List.map_cons, List.map_nil]); first | done | rfl | (simp only [List.length_drop, List.length_take]; rfl)) ?_
            with_reducible refine (ih k1 (by have := HK1.out; omega) ((rd_T29 l0_3 x4_1).f0) ((rd_T29 l0_3 x4_1).f1) ((rd_T29 l0_3 x4_1).f2) _ _ ((rd_T29 l0_3 x4_1).f3) t127 t128 t129 t130 _ ?side1 ?side2 A12.out).mono ?_
            (case side1 => repeat (first | exact (Kd.C_below HR126_3.out HB.out) | (with_reducible refine Kd.C_alloc ?_ _) | (with_reducible refine Kd.C_drewN ?_ _) | (with_reducible refine Kd.C_drew ?_)))
            (case side2 => exact HC126_3.out)
            rintro e w18 ⟨v131, rfl, ho0, hb⟩
            refine ⟨_, rfl, ?_⟩
            have n0_ := Aside0.mk (Kd.S_elder' z34_3 (Kd.S_base ho0) hb)
            have n1_ := Aside0.mk (Kd.S_lower (Kd.S_newB (Kd.S_newB (Kd.S_newB (Kd.S_new' ho0 (Kd.S_lt z34_3)) (g := gb123) (o := .cells #[.int .i64 a0_0, .int .i64 a0_1, .int .i64 a0_2, .slice (some ad126) l0_3.length c0_3] 29 (0, 0)) (pB34_ BK123.out)) (g := gb124) (o := .cells #[.int .i64 0, .int .i64 0, .int .i64 0, .slice none 0 0] 29 (0, 0)) (pB34_ BK124.out)) (g := gb125) (o := .cells #[.int .i64 a0_0, .int .i64 a0_1, .int .i64 a0_2, u126003] 29 (0, 0)) (pB34_ BK125.out)) (below_size z34_0))
            obtain ⟨NC0, HEC0, HRC0⟩ := Go.Proofs.YthjhenhmjmpkaaaTree.S_split z34_3 (Kd.S_newB (Kd.S_newB (Kd.S_newB (Kd.S_new' ho0 (Kd.S_lt z34_3)) (g := gb123) (o := .cells #[.int .i64 a0_0, .int .i64 a0_1, .int .i64 a0_2, .slice (some ad126) l0_3.length c0_3] 29 (0, 0)) (pB34_ BK123.out)) (g := gb124) (o := .cells #[.int .i64 0, .int .i64 0, .int .i64 0, .slice none 0 0] 29 (0, 0)) (pB34_ BK124.out)) (g := gb125) (o := .cells #[.int .i64 a0_0, .int .i64 a0_1, .int .i64 a0_2, u126003] 29 (0, 0)) (pB34_ BK125.out)) hb (below_size z34_0)
            have n2_ := Aside0.mk (blk_below (g := gb123) (o := .cells #[.int .i64 a0_0, .int .i64 a0_1, .int .i64 a0_2, .slice (some ad126) l0_3.length c0_3] 29 (0, 0)) (pB34_ BK123.out) hb)
            have n3_ := Aside0.mk (blk_below (g := gb124) (o := .cells #[.int .i64 0, .int .i64 0, .int .i64 0, .slice none 0 0] 29 (0, 0)) (pB34_ BK124.out) hb)
            have n4_ := Aside0.mk (blk_below (g := gb125) (o := .cells #[.int .i64 a0_0, .int .i64 a0_1, .int .i64 a0_2, u126003] 29 (0, 0)) (pB34_ BK125.out) hb)
            have n5_ := Aside0.mk (below_step z34_0 hb)
            clear HO_126003
            clear BK123
            clear BK124
            clear BK125
            clear HB
            have HO_126003 := n0_
            have HO132 := n1_
            have BK123 := n2_
            have BK124 := n3_
            have BK125 := n4_
            have HB := n5_
            clear n0_ n1_ n2_ n3_ n4_ n5_
            (try clear hb)
            (try clear hb2)
            (try clear hk)
            (try clear hi)
            (try clear ho0)
            obtain ⟨Ao20, co20, eo20⟩ := Kd.S_slice HO132.out
            (first | subst eo20 | (injection eo20 with f1_ f2_ f3_; have f4_ := f1_.symm; have f5_ := f3_.symm; clear f1_ f2_ f3_; subst f4_; subst f5_))
            refine hK.out _ _ ⟨(bC_ BK125.out 0).trans rfl, (bC_ BK125.out 1).trans rfl, (bC_ BK125.out 2).trans rfl, (bC_ BK125.out 3).trans rfl, (bC_ BK123.out 0).trans rfl, (bC_ BK123.out 1).trans rfl, (bC_ BK123.out 2).trans rfl, (bC_ BK123.out 3).trans rfl, ((HB.out.cell (World.block_lt_of_cell? w _ hw126_0)).trans hw126_0), ((HB.out.cell (World.block_lt_of_cell? w _ hw126_1)).trans hw126_1), ((HB.out.cell (World.block_lt_of_cell? w _ hw126_2)).trans hw126_2), ((HB.out.cell (World.block_lt_of_cell? w _ hw126_3)).trans hw126_3)⟩ (fun hHeld => ?_)
            clear hK K
            refine norm_ (a' := ?_) ?_ ?_
            rotate_left
            · show Act.put _ (some 26) _ = _
              simp only [Act.put, List.setIfInBounds_toArray, List.set_cons_zero, List.set_cons_succ, i64_w, i32_w]
              rfl
            refine one_ (i := 8) (N := some 27) #[true, true, true, true, true, true, true, true, true, false, false, false] rfl rfl (one_of HT_.out (by kernel_rfl)) (by decide) (fun K hK => ?_)
            refine value_ (w1 := ?_) (v := ?_) (by rfl) rfl ?_ ?_
            rotate_left 2
            · go_simp
              constructor
              · rfl
              · rfl
            refine hK.out _ _ ⟨(bC_ (blk_alloc BK125.out _) 0).trans rfl, (bC_ (blk_alloc BK125.out _) 1).trans rfl, (bC_ (blk_alloc BK125.out _) 2).trans rfl, (bC_ (blk_alloc BK125.out _) 3).trans rfl, (bC_ (blk_alloc BK123.out _) 0).trans rfl, (bC_ (blk_alloc BK123.out _) 1).trans rfl, (bC_ (blk_alloc BK123.out _) 2).trans rfl, (bC_ (blk_alloc BK123.out _) 3).trans rfl, (World.cell?_alloc_lt _ _ _ (World.block_lt_of_cell? _ _ (((HB.out.cell (World.block_lt_of_cell? w _ hw126_0)).trans hw126_0)))).trans (((HB.out.cell (World.block_lt_of_cell? w _ hw126_0)).trans hw126_0)), (World.cell?_alloc_lt _ _ _ (World.block_lt_of_cell? _ _ (((HB.out.cell (World.block_lt_of_cell? w _ hw126_1)).trans hw126_1)))).trans (((HB.out.cell (World.block_lt_of_cell? w _ hw126_1)).trans hw126_1)), (World.cell?_alloc_lt _ _ _ (World.block_lt_of_cell? _ _ (((HB.out.cell (World.block_lt_of_cell? w _ hw126_2)).trans hw126_2)))).trans (((HB.out.cell (World.block_lt_of_cell? w _ hw126_2)).trans hw126_2)), (World.cell?_alloc_lt _ _ _ (World.block_lt_of_cell? _ _ (((HB.out.cell (World.block_lt_of_cell? w _ hw126_3)).trans hw126_3)))).trans (((HB.out.cell (World.block_lt_of_cell? w _ hw126_3)).trans hw126_3))⟩ (fun hHeld => ?_)
            clear hK K
            refine norm_ (a' := ?_) ?_ ?_
            rotate_left
            · show Act.put _ (some 27) _ = _
              simp only [Act.put, List.setIfInBounds_toArray, List.set_cons_zero, List.set_cons_succ, i64_w, i32_w]
              rfl
            refine one_ (i := 9) (N := some 28) #[true, true, true, true, true, true, true, true, true, true, false, false] rfl rfl (one_of HT_.out (by kernel_rfl)) (by decide) (fun K hK => ?_)
            refine Kd.S_append_step k29 (w0 := w) w.heap.size (by rfl) (.tmp 20) (.tmp 27) 26 29 (.agg #[(.int .i64 0), (.int .i64 0), (.int .i64 0), (.slice none 0 0)]) 48 rfl Try.underlying26 info29 rfl (by decide) (by omega) u126003 x126003_1 (⟨t127, t128, t129, t130⟩ : S29) [.int .i64 t127, .int .i64 t128, .int .i64 t129, .slice Ao20 t130.length co20] (fun k_ => k_ ≠ gb123 ∧ k_ ≠ gb124 ∧ k_ ≠ gb125) (fun k_ => (((fun k_ => k_ ≠ gb123 ∧ k_ ≠ gb124 ∧ k_ ≠ gb125)) k_ ∧ some k_ ≠ (u126003 : Value).ownBlock) ∧ NC0 ≤ k_) rfl rfl ?aP (fun k_ hk_ => hk_.1) ?aF ?aO ?aB ?aS ?aL ?_
            (case aP => exact k29_mkM _ _ _ (⟨t127, t128, t129, t130⟩ : S29) (Kd.S_mono (ok' := (fun k_ => (((fun k_ => k_ ≠ gb123 ∧ k_ ≠ gb124 ∧ k_ ≠ gb125)) k_ ∧ some k_ ≠ (u126003 : Value).ownBlock) ∧ NC0 ≤ k_)) HRC0.out (fun k_ hk_ => ⟨(fun k_ hk => ⟨⟨hk.1.1.2, ⟨hk.1.2, hk.2⟩⟩, hk.1.1.1.2⟩) k_ hk_.1, hk_.2⟩)))
            (case aB => exact z34_0)
            (case aF => exact (fun k_ hk => ⟨Kd.freshB (g := gb123) (o := .cells #[.int .i64 a0_0, .int .i64 a0_1, .int .i64 a0_2, .slice (some ad126) l0_3.length c0_3] 29 (0, 0)) (pB34_ BK123.out) k_ hk, Kd.freshB (g := gb124) (o := .cells #[.int .i64 0, .int .i64 0, .int .i64 0, .slice none 0 0] 29 (0, 0)) (pB34_ BK124.out) k_ hk, Kd.freshB (g := gb125) (o := .cells #[.int .i64 a0_0, .int .i64 a0_1, .int .i64 a0_2, u126003] 29 (0, 0)) (pB34_ BK125.out) k_ hk⟩))
            (case aO => exact (by (with_reducible repeat (first | apply Kd.S_alloc | apply Kd.S_drewN | apply Kd.S_drew)); exact Kd.S_mono HEC0.out (fun k_ hk => ⟨⟨hk.1.1, ⟨hk.1.2.1, hk.1.2.2⟩⟩, fun e_ => Nat.lt_irrefl _ (Nat.lt_of_lt_of_le hk.2 e_.2)⟩)))
            (case aS => exact (below_size z34_0))
            (case aL => have := LMc13.out; omega)
            intro v134 w19 ho hb hg hat
            rw [← Ny133.out] at ho
            have n0_ := Aside0.mk (blk_grown (g := gb123) (o := .cells #[.int .i64 a0_0, .int .i64 a0_1, .int .i64 a0_2, .slice (some ad126) l0_3.length c0_3] 29 (0, 0)) (pB34_ BK123.out) hg (Kd.S_away HO_126003.out (fun _ hk => hk.1.1)))
            have n1_ := Aside0.mk (blk_grown (g := gb124) (o := .cells #[.int .i64 0, .int .i64 0, .int .i64 0, .slice none 0 0] 29 (0, 0)) (pB34_ BK124.out) hg (Kd.S_away HO_126003.out (fun _ hk => hk.1.2.1)))
            have n2_ := Aside0.mk (blk_grown (g := gb125) (o := .cells #[.int .i64 a0_0, .int .i64 a0_1, .int .i64 a0_2, u126003] 29 (0, 0)) (pB34_ BK125.out) hg (Kd.S_away HO_126003.out (fun _ hk => hk.1.2.2)))
            have n3_ := Aside0.mk (hb)
            have n4_ := Aside0.mk (ho)
            clear BK123
            clear BK124
            clear BK125
            clear HB
            clear HO_126003
            clear HO132
            have BK123 := n0_
            have BK124 := n1_
            have BK125 := n2_
            have HB := n3_
            have HO135 := n4_
            clear n0_ n1_ n2_ n3_ n4_
            clear ho hb hg hat
            obtain ⟨Ao21, co21, eo21⟩ := Kd.S_slice HO135.out
            (first | subst eo21 | (injection eo21 with f1_ f2_ f3_; have f4_ := f1_.symm; have f5_ := f3_.symm; clear f1_ f2_ f3_; subst f4_; subst f5_))
            refine hK.out _ _ ⟨(bC_ BK125.out 0).trans rfl, (bC_ BK125.out 1).trans rfl, (bC_ BK125.out 2).trans rfl, (bC_ BK125.out 3).trans rfl, (bC_ BK123.out 0).trans rfl, (bC_ BK123.out 1).trans rfl, (bC_ BK123.out 2).trans rfl, (bC_ BK123.out 3).trans rfl, ((HB.out.cell (World.block_lt_of_cell? w _ hw126_0)).trans hw126_0), ((HB.out.cell (World.block_lt_of_cell? w _ hw126_1)).trans hw126_1), ((HB.out.cell (World.block_lt_of_cell? w _ hw126_2)).trans hw126_2), ((HB.out.cell (World.block_lt_of_cell? w _ hw126_3)).trans hw126_3)⟩ (fun hHeld => ?_)
            clear hK K
            refine norm_ (a' := ?_) ?_ ?_
            rotate_left
            · show Act.put _ (some 28) _ = _
              simp only [Act.put, List.setIfInBounds_toArray, List.set_cons_zero, List.set_cons_succ, i64_w, i32_w]
              rfl
            refine pure_ (i := 10) (N := some 29) (v := ?_) (a' := ?_) #[true, true, true, true, true, true, true, true, true, true, true, false] rfl rfl (any_of HT_.out (by kernel_rfl)) (fun _ _ _ h => h) (Or.inl ⟨by rfl, ?_⟩) ?_ ?_
            rotate_left
            · intro w'
              go_simp
              with_reducible rfl
            rotate_left
            · simp only [Act.put, List.setIfInBounds_toArray, List.set_cons_zero, List.set_cons_succ, i64_w, i32_w]
              rfl
            refine last_ (i := 11) (N := none) #[true, true, true, true, true, true, true, true, true, true, true, true] rfl rfl (one_of HT_.out (by kernel_rfl)) (by decide) (fun K hK => ?_)
            have hs22 : w19.cell? ⟨gb125, 3, none⟩ = some (u126003) := (bC_ BK125.out 3).trans rfl
            have hfs22 := bF_ BK125.out 3
            have hns22_0 := NB123_125.out
            have hns22_1 := NB124_125.out
            have hms22_0 := NB125_123.out
            have hms22_1 := NB125_124.out
            refine skip_ (w1 := ?_) (by rfl) rfl ?_ ?_
            rotate_left
            · go_simp
              rfl
            refine hK.out _ _ ?_
            clear hK K
            refine done_ (done_of HT_.out (by kernel_rfl)) ?_
            try go_wp2
            go_roundg k1
            case measure => have := HK1.out; omega
            case rel => exact ⟨(wrap64 (x4_1 + 1)), (y133), (.slice Ao21 y133.length co21), (by first | rfl | (simp; done) | (simp [*]; done)), H', ⟨by have := HK1.out; omega⟩, ⟨by (with_reducible repeat (first | apply Kd.S_alloc | apply Kd.S_drewN | apply Kd.S_drew)); exact Kd.S_mono (Kd.S_far (p := ⟨gb125, 3, none⟩) (Kd.S_mono HO135.out (fun k_ hk => (⟨hk, hk.2.2⟩ : _ ∧ k_ ≠ gb125))) (fun _ hk => hk.2) (.slice Ao21 y133.length co21)) (fun _ hk => ⟨hk.1.1, ⟨hk.1.2.1, hk.1.2.2⟩⟩)⟩, ⟨by (with_reducible repeat (first | refine blk_drewN ?_ _ | refine blk_drew ?_ | refine blk_alloc ?_ _)); refine blk_far ?_ NB123_125.out _; (with_reducible repeat (first | refine blk_drewN ?_ _ | refine blk_drew ?_ | refine blk_alloc ?_ _)); exact BK123.out⟩, ⟨by (with_reducible repeat (first | refine blk_drewN ?_ _ | refine blk_drew ?_ | refine blk_alloc ?_ _)); refine blk_far ?_ NB124_125.out _; (with_reducible repeat (first | refine blk_drewN ?_ _ | refine blk_drew ?_ | refine blk_alloc ?_ _)); exact BK124.out⟩, ⟨by (with_reducible repeat (first | refine blk_drewN ?_ _ | refine blk_drew ?_ | refine blk_alloc ?_ _)); refine blk_put (cs := #[.int .i64 a0_0, .int .i64 a0_1, .int .i64 a0_2, u126003]) ?_ 3 _ rfl; (with_reducible repeat (first | refine blk_drewN ?_ _ | refine blk_drew ?_ | refine blk_alloc ?_ _)); exact BK125.out⟩, ⟨by repeat (first | (with_reducible first | exact HB.out | apply bA_ | apply bN_ | apply bD_ | refine bS_ ?_ GE123.out | refine bS_ ?_ GE124.out | refine bS_ ?_ GE125.out) | exact HB.out)⟩⟩
          · rw [if_neg c13] at H
            exact absurd H (by simp)
        · rw [if_neg c11] at H
          exact absurd H (by simp)
      · rw [if_neg c10] at H
        have c10b0 : decide (x4_1 < (l0_3.length : Int)) = false := decide_eq_false c10
        clear c10
        simp only [Option.some.injEq, Prod.mk.injEq] at H
        obtain ⟨rfl, rfl, rfl, rfl⟩ := H
        have hnb23 := NB123_124.out
        have hnc23 := NB124_123.out
        have hnb24 := NB123_125.out
        have hnc24 := NB125_123.out
        have hcz25_0 : wr.cell? ⟨gb123, 0, none⟩ = some (.int .i64 a0_0) := (bC_ BK123.out 0).trans rfl
        have hcz25_1 : wr.cell? ⟨gb123, 1, none⟩ = some (.int .i64 a0_1) := (bC_ BK123.out 1).trans rfl
        have hcz25_2 : wr.cell? ⟨gb123, 2, none⟩ = some (.int .i64 a0_2) := (bC_ BK123.out 2).trans rfl
        have hcz25_3 : wr.cell? ⟨gb123, 3, none⟩ = some (.slice A0_3 l0_3.length c0_3) := (bC_ BK123.out 3).trans rfl
        have hfz25_0 := bF_ BK123.out 0
        have hfz25_1 := bF_ BK123.out 1
        have hfz25_2 := bF_ BK123.out 2
        have hfz25_3 := bF_ BK123.out 3
        have hnb26 := NB125_124.out
        have hnc26 := NB124_125.out
        have hcz27_0 : wr.cell? ⟨gb125, 0, none⟩ = some (.int .i64 a0_0) := (bC_ BK125.out 0).trans rfl
        have hcz27_1 : wr.cell? ⟨gb125, 1, none⟩ = some (.int .i64 a0_1) := (bC_ BK125.out 1).trans rfl
        have hcz27_2 : wr.cell? ⟨gb125, 2, none⟩ = some (.int .i64 a0_2) := (bC_ BK125.out 2).trans rfl
        have hcz27_3 : wr.cell? ⟨gb125, 3, none⟩ = some (u126003) := (bC_ BK125.out 3).trans rfl
        have hfz27_0 := bF_ BK125.out 0
        have hfz27_1 := bF_ BK125.out 1
        have hfz27_2 := bF_ BK125.out 2
        have hfz27_3 := bF_ BK125.out 3
        have hcz28_0 : wr.cell? ⟨gb124, 0, none⟩ = some (.int .i64 0) := (bC_ BK124.out 0).trans rfl
        have hcz28_1 : wr.cell? ⟨gb124, 1, none⟩ = some (.int .i64 0) := (bC_ BK124.out 1).trans rfl
        have hcz28_2 : wr.cell? ⟨gb124, 2, none⟩ = some (.int .i64 0) := (bC_ BK124.out 2).trans rfl
        have hcz28_3 : wr.cell? ⟨gb124, 3, none⟩ = some (.slice none 0 0) := (bC_ BK124.out 3).trans rfl
        have hfz28_0 := bF_ BK124.out 0
        have hfz28_1 := bF_ BK124.out 1
        have hfz28_2 := bF_ BK124.out 2
        have hfz28_3 := bF_ BK124.out 3
        obtain ⟨Ao29, co29, eo29⟩ := Kd.S_slice HO_126003.out
        subst eo29
        go_wp2
        refine bodyPost_ret (results_cell_row rfl _ _ gb124 29 #[.int .i64 a0_0, .int .i64 a0_1, .int .i64 a0_2, .slice Ao29 x126003_1.length co29] (0, 0) _ rfl (by (with_reducible repeat (first | refine blk_drewN ?_ _ | refine blk_drew ?_ | refine blk_alloc ?_ _)); refine blk_put (cs := #[.int .i64 a0_0, .int .i64 a0_1, .int .i64 a0_2, .slice none 0 0]) ?_ 3 _ rfl; (with_reducible repeat (first | refine blk_drewN ?_ _ | refine blk_drew ?_ | refine blk_alloc ?_ _)); refine blk_put (cs := #[.int .i64 a0_0, .int .i64 a0_1, .int .i64 0, .slice none 0 0]) ?_ 2 _ rfl; (with_reducible repeat (first | refine blk_drewN ?_ _ | refine blk_drew ?_ | refine blk_alloc ?_ _)); refine blk_put (cs := #[.int .i64 a0_0, .int .i64 0, .int .i64 0, .slice none 0 0]) ?_ 1 _ rfl; (with_reducible repeat (first | refine blk_drewN ?_ _ | refine blk_drew ?_ | refine blk_alloc ?_ _)); refine blk_put (cs := #[.int .i64 0, .int .i64 0, .int .i64 0, .slice none 0 0]) ?_ 0 _ rfl; (with_reducible repeat (first | refine blk_drewN ?_ _ | refine blk_drew ?_ | refine blk_alloc ?_ _)); exact BK124.out) Try.underlying29 rfl (by kernel_rfl)) rfl ?_
        exact ⟨_, by first | rfl | (simp [errW_none, errW_some] <;> rfl) | (simp [*, errW_none, errW_some] <;> rfl), by (with_reducible repeat (first | apply Kd.S_alloc | apply Kd.S_drewN | apply Kd.S_drew)); exact Kd.S_mono (Kd.S_far (p := ⟨gb124, 3, none⟩) (Kd.S_far (p := ⟨gb124, 2, none⟩) (Kd.S_far (p := ⟨gb124, 1, none⟩) (Kd.S_far (p := ⟨gb124, 0, none⟩) (Kd.S_mono HO_126003.out (fun k_ hk => (⟨hk, hk.2.1⟩ : _ ∧ k_ ≠ gb124))) (fun _ hk => hk.2) (.int .i64 a0_0)) (fun _ hk => hk.2) (.int .i64 a0_1)) (fun _ hk => hk.2) (.int .i64 a0_2)) (fun _ hk => hk.2) (.slice Ao29 x126003_1.length co29)) (fun _ hk => trivial), by repeat (first | (with_reducible first | exact HB.out | apply bA_ | apply bN_ | apply bD_ | refine bS_ ?_ GE123.out | refine bS_ ?_ GE124.out | refine bS_ ?_ GE125.out) | exact HB.out)⟩

end Go.Proofs.Ythjhenhmjmpkaaa.XFnConditions
