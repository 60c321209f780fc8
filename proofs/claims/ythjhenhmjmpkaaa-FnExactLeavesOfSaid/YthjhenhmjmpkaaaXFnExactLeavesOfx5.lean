/- Written by this session's own program (wip/xprint, which runs over the kit's print): what the functions that the law reaches come to, each proved; and the law's row. Conditions: none. -/
import Derived.Test.YthjhenhmjmpkaaaXFnExactLeavesOfx0
import Derived.Test.YthjhenhmjmpkaaaXFnExactLeavesOfx4
namespace Go.Proofs.Ythjhenhmjmpkaaa.XFnExactLeavesOf
open Go.RowKit Go.Proofs.YthjhenhmjmpkaaaW.PrintWords Go.Proofs.YthjhenhmjmpkaaaW.PrintLast Go.Proofs.YthjhenhmjmpkaaaW.PrintMore
attribute [local go_sem] max2_int min2_int max_two min_two max_three min_three max_four min_four   -- for this text's walks alone
set_option linter.unusedVariables false
set_option linter.unusedSimpArgs false

/-! ### impl_LeavesOf: function 8 -/
/-- Is one of the list the same as the node? -/
def impl_LeavesOf.has (k : Nat) (x : S29) : List S29 → Option Bool
  | [] => some false
  | y :: t => (impl_EqualConds.f k y.f0 y.f1 y.f2 y.f3 x.f0 x.f1 x.f2 x.f3).bind fun b => if b = true then some true else impl_LeavesOf.has k x t
/-- The leaves of a node that the list lacks, behind it. -/
def impl_LeavesOf.g : Nat → S29 → List S29 → Option (List S29)
  | 0, _, _ => none
  | k + 1, x, l => (if 2 ≤ x.f0 ∧ x.f0 ≤ 6 ∧ x.f3.length = 0 then (impl_LeavesOf.has k x l).bind fun b => if b = true then some l else (impl_copyCond.f k x.f0 x.f1 x.f2 x.f3).bind fun y => if l.length < 2932031007402 then some (l ++ [⟨y.1, y.2.1, y.2.2.1, y.2.2.2⟩]) else none else some l).bind fun l1 => x.f3.foldlM (fun l y => impl_LeavesOf.g k y l) l1
def impl_LeavesOf.f (k : Nat) (a0_0 : Int) (a0_1 : Int) (a0_2 : Int) (l0_3 : List S29) : Option (List S29) := impl_LeavesOf.g k ⟨a0_0, a0_1, a0_2, l0_3⟩ []
set_option maxHeartbeats 8000000 in
set_option maxRecDepth 100000 in
theorem impl_LeavesOf.closure (k : Nat) (x y : S29) (A A2 : Option Addr) (c c2 : Nat) (gb : Nat) (eb : Bool) (W : World) (hb : W.heap[gb]? = some (.cells #[.int .i64 x.f0, .int .i64 x.f1, .int .i64 x.f2, .slice A x.f3.length c] 29 (0, 0))) (hX : Kd.C k29 W A x.f3.length x.f3) (hC : x.f3.length ≤ c) (hY : Kd.C k29 W A2 y.f3.length y.f3) (hC2 : y.f3.length ≤ c2) (h : impl_EqualConds.f k y.f0 y.f1 y.f2 y.f3 x.f0 x.f1 x.f2 x.f3 = some eb) :
    Calls Try.prog 36 #[.agg #[.int .i64 y.f0, .int .i64 y.f1, .int .i64 y.f2, .slice A2 y.f3.length c2], .pointer (some ⟨gb, 0, none⟩)] W fun e w' => e = .returned (.bool eb) ∧ Below W.heap.size W w' := by
  have BK0 := Aside0.mk hb
  have HX := Aside0.mk hX
  have HC := Aside0.mk hC
  have HY := Aside0.mk hY
  have HC2 := Aside0.mk hC2
  have HE := Aside0.mk h
  clear hb hX hC hY hC2 h
  go_enter Try.func36, Try.ntmps36
  go_wp2_with (first | ((with_reducible refine gate_dst (N := 2) rfl ?_); refine box_event ?hg (N := 2) ?hd (cs := #[.int .i64 y.f0, .int .i64 y.f1, .int .i64 y.f2, .slice A2 y.f3.length c2]) (t := 29) ?hr ?_; (case hd => rfl); (case hg => rfl); (case hr => first | (go_simp; done) | (go_simp; rfl)); intro g2 hg w2 hbox hb; have BK2 := Aside0.mk hbox; have BK := Aside0.mk (blk_below BK0.out hb); have HB := Aside0.mk hb; clear hg hbox hb; have hcy0 : w2.cell? ⟨g2, 0, none⟩ = some (.int .i64 y.f0) := (blk_cell BK2.out 0).trans rfl; have hcy1 : w2.cell? ⟨g2, 1, none⟩ = some (.int .i64 y.f1) := (blk_cell BK2.out 1).trans rfl; have hcy2 : w2.cell? ⟨g2, 2, none⟩ = some (.int .i64 y.f2) := (blk_cell BK2.out 2).trans rfl; have hcy3 : w2.cell? ⟨g2, 3, none⟩ = some (.slice A2 y.f3.length c2) := (blk_cell BK2.out 3).trans rfl; have hcx0 : w2.cell? ⟨gb, 0, none⟩ = some (.int .i64 x.f0) := (blk_cell BK.out 0).trans rfl; have hcx1 : w2.cell? ⟨gb, 1, none⟩ = some (.int .i64 x.f1) := (blk_cell BK.out 1).trans rfl; have hcx2 : w2.cell? ⟨gb, 2, none⟩ = some (.int .i64 x.f2) := (blk_cell BK.out 2).trans rfl; have hcx3 : w2.cell? ⟨gb, 3, none⟩ = some (.slice A x.f3.length c) := (blk_cell BK.out 3).trans rfl) | (go_at_call 21; refine (impl_EqualConds.calls k y.f0 y.f1 y.f2 _ _ y.f3 x.f0 x.f1 x.f2 _ _ x.f3 eb w2 (Kd.C_below HY.out HB.out) HC2.out (Kd.C_below HX.out HB.out) HC.out HE.out).mono ?_; rintro e w3 ⟨rfl, hb⟩; have HB3 := Aside0.mk (below_step HB.out hb); clear hb))
  go_ret
  exact ⟨rfl, HB3.out⟩
set_option maxHeartbeats 8000000 in
set_option maxRecDepth 100000 in
theorem impl_LeavesOf.index (k : Nat) (x : S29) (l0 : List S29) (A Au : Option Addr) (c cu : Nat) (gb : Nat) (bf : Bool) (w : World) (hb : w.heap[gb]? = some (.cells #[.int .i64 x.f0, .int .i64 x.f1, .int .i64 x.f2, .slice A x.f3.length c] 29 (0, 0))) (hX : Kd.C k29 w A x.f3.length x.f3) (hC : x.f3.length ≤ c) (hL : Kd.C k29 w Au l0.length l0) (h : impl_LeavesOf.has k x l0 = some bf) :
    Calls Try.prog 42 #[.slice Au l0.length cu, .func (.func 36) #[] #[.pointer (some ⟨gb, 0, none⟩)]] w fun e w' => ∃ i : Int, e = .returned (.int .i64 i) ∧ decide (i ≥ 0) = bf ∧ Below w.heap.size w w' := by
  have BK := Aside0.mk hb
  have HX := Aside0.mk hX
  have HC := Aside0.mk hC
  have HL := Aside0.mk hL
  have HL0 := Aside0.mk (Kd.C_max hL)
  have HH := Aside0.mk h
  clear hb hX hC hL h
  go_enter Try.func42, Try.ntmps42
  go_wp2
  go_loopg [5, 8] l0.length (fun gg _ v8 w' => ∃ (a' b : List S29), Aside0 (l0 = a' ++ b) ∧ b.length ≤ gg ∧ v8 = .int .i64 (a'.length : Int) ∧ Aside0 (impl_LeavesOf.has k x b = some bf) ∧ Aside0 (Below w.heap.size w w'))
  case atStart => exact ⟨[], l0, ⟨rfl⟩, Nat.le_refl _, rfl, HH, ⟨Below.refl _ _⟩⟩
  case round =>
    clear HH
    obtain ⟨a', b, hl, hgg, rfl, HH, HB⟩ := hrel
    cases b with
    | nil =>
      have hd : decide ((a'.length : Int) < (l0.length : Int)) = false := decide_eq_false (by rw [hl.out]; simp)
      have hd2 : ((a'.length : Int) < (l0.length : Int)) = False := eq_false (by rw [hl.out]; simp)
      have hd3 : (a'.length < l0.length) = False := eq_false (by rw [hl.out]; simp)
      have hbf := HH.out
      rw [impl_LeavesOf.has] at hbf
      obtain rfl := Option.some.inj hbf
      clear hbf
      go_wp2
      go_ret
      exact ⟨_, rfl, by decide, HB.out⟩
    | cons y b =>
      have hlt : (a'.length : Int) < (l0.length : Int) := by rw [hl.out]; simp; omega
      have hd : decide ((a'.length : Int) < (l0.length : Int)) = true := decide_eq_true hlt
      have hxx : rd_T29 l0 (a'.length : Int) = y := by
        unfold rd_T29
        rw [Int.toNat_natCast, hl.out, List.getD_eq_getElem?_getD, List.getElem?_append_right (Nat.le_refl _), Nat.sub_self]
        rfl
      obtain ⟨ad2, A2, c2, e2, hx0, hx1, hx2, hx3, hl2, hi2⟩ := at_T29 HL.out (a'.length : Int) (by omega) hlt
      have HI2 := Aside0.mk (hxx ▸ hi2 : Kd.C k29 w A2 y.f3.length y.f3)
      have HL2 := Aside0.mk (hxx ▸ hl2 : y.f3.length ≤ c2)
      clear hi2 hl2
      rw [hxx] at hx0 hx1 hx2 hx3
      cases e2
      replace hx0 := (HB.out.cell (World.block_lt_of_cell? w _ hx0)).trans hx0
      replace hx1 := (HB.out.cell (World.block_lt_of_cell? w _ hx1)).trans hx1
      replace hx2 := (HB.out.cell (World.block_lt_of_cell? w _ hx2)).trans hx2
      replace hx3 := (HB.out.cell (World.block_lt_of_cell? w _ hx3)).trans hx3
      have hlt' := eq_true hlt
      simp only [Int.toNat_natCast] at hx0 hx1 hx2 hx3
      cases gk with
      | zero => exact absurd hgg (by simp)
      | succ g1 =>
      have hbf := HH.out
      clear HH
      rw [impl_LeavesOf.has] at hbf
      cases he : impl_EqualConds.f k y.f0 y.f1 y.f2 y.f3 x.f0 x.f1 x.f2 x.f3 with
      | none => rw [he] at hbf; cases hbf
      | some eb =>
      rw [he, Option.bind_some] at hbf
      have hcall := impl_LeavesOf.closure k x y A A2 c c2 gb eb wr (blk_below BK.out HB.out) (Kd.C_below HX.out HB.out) HC.out (Kd.C_below HI2.out HB.out) HL2.out he
      clear he
      cases eb with
      | true =>
        rw [if_pos rfl] at hbf
        obtain rfl := Option.some.inj hbf
        clear hbf
        go_wp2_with (first | (go_at_call 36; refine hcall.mono ?_; rintro e w3 ⟨rfl, hb⟩; have HB3 := Aside0.mk (below_step HB.out hb); clear hb))
        go_ret
        exact ⟨_, rfl, decide_eq_true (Int.natCast_nonneg _), HB3.out⟩
      | false =>
        rw [if_neg (by simp)] at hbf
        have HH := Aside0.mk hbf
        clear hbf
        go_wp2_with (first | (go_at_call 36; refine hcall.mono ?_; rintro e w3 ⟨rfl, hb⟩; have HB3 := Aside0.mk (below_step HB.out hb); clear hb))
        go_roundg g1
        case measure => omega
        case rel => exact ⟨a' ++ [y], b, ⟨by rw [hl.out]; simp⟩, by simp at hgg; omega, by have := HL0.out; rw [List.length_append]; unfold wrap64; rw [hl.out] at this; simp at this ⊢; omega, HH, HB3⟩
set_option maxHeartbeats 8000000 in
set_option maxRecDepth 100000 in
theorem impl_LeavesOf.contains (k : Nat) (x : S29) (l0 : List S29) (A Au : Option Addr) (c cu : Nat) (gb : Nat) (bf : Bool) (w : World) (hb : w.heap[gb]? = some (.cells #[.int .i64 x.f0, .int .i64 x.f1, .int .i64 x.f2, .slice A x.f3.length c] 29 (0, 0))) (hX : Kd.C k29 w A x.f3.length x.f3) (hC : x.f3.length ≤ c) (hL : Kd.C k29 w Au l0.length l0) (h : impl_LeavesOf.has k x l0 = some bf) :
    Calls Try.prog 35 #[.slice Au l0.length cu, .func (.func 36) #[] #[.pointer (some ⟨gb, 0, none⟩)]] w fun e w' => e = .returned (.bool bf) ∧ Below w.heap.size w w' := by
  have hcall := impl_LeavesOf.index k x l0 A Au c cu gb bf w hb hX hC hL h
  clear hb hX hC hL h
  go_enter Try.func35, Try.ntmps35
  go_wp2_with (first | (go_at_call 42; refine hcall.mono ?_; rintro e w3 ⟨i, rfl, hi, hb⟩; have HB3 := Aside0.mk hb; clear hb))
  go_ret
  exact ⟨rfl, HB3.out⟩
set_option maxHeartbeats 16000000 in
set_option maxRecDepth 100000 in
theorem impl_LeavesOf.run (k : Nat) : ∀ (l0 : List S29) (u : Value) (x : S29) (A : Option Addr) (c : Nat) (r : List S29) (P : Nat → Prop) (w0 w : World) (hB : Below w0.heap.size w0 w) (hS : Kd.S k29 29 w w0.heap.size P u l0) (hX : Kd.C k29 w0 A x.f3.length x.f3) (hC : x.f3.length ≤ c) (h : impl_LeavesOf.g k x l0 = some r),
    Calls Try.prog 26 #[.agg #[.int .i64 x.f0, .int .i64 x.f1, .int .i64 x.f2, .slice A x.f3.length c], u] w fun e w' => ∃ v : Value, e = .returned (v) ∧ Kd.S k29 29 w' w0.heap.size (fun j => P j ∨ w.heap.size ≤ j) v r ∧ Kept w w' P ∧ Below w0.heap.size w0 w' := by
  induction k with
  | zero =>
    intro l0 u x A c r P w0 w hB hS hX hC h
    exact absurd h (by simp [impl_LeavesOf.g])
  | succ k ih =>
  intro l0 u x A c r P w0 w hB hS hX hC h
  obtain ⟨Au, cu, rfl, hcu, hCu0⟩ := Kd.S_reads hS
  have HX0 := Aside0.mk (Kd.C_max hX)
  have HB := Aside0.mk hB
  have HS := Aside0.mk hS
  have HX := Aside0.mk hX
  have HC := Aside0.mk hC
  clear hB hS hX hC hcu hCu0
  rw [impl_LeavesOf.g] at h
  have hin : impl_InRange.f x.f0 2 6 = some (decide (2 ≤ x.f0 ∧ x.f0 ≤ 6)) := by
    unfold impl_InRange.f
    by_cases q : 2 ≤ x.f0
    · rw [if_pos q]; simp [q]
    · rw [if_neg q]; simp [q]
  by_cases c0 : 2 ≤ x.f0 ∧ x.f0 ≤ 6
  · rw [decide_eq_true c0] at hin
    by_cases hz0 : x.f3.length = 0
    · rw [if_pos ⟨c0.1, c0.2, hz0⟩] at h
      have hz : ((x.f3.length : Int) == 0) = true := by rw [hz0]; rfl
      cases hh : impl_LeavesOf.has k x l0 with
      | none => rw [hh] at h; cases h
      | some bf =>
      rw [hh, Option.bind_some] at h
      have HH := Aside0.mk hh
      clear hh hz0 c0
      cases bf with
      | true =>
        rw [if_pos rfl, Option.bind_some] at h
        have HR := Aside0.mk h
        clear h
        go_enter Try.func26, Try.ntmps26
        go_wp2_with (first | ((with_reducible refine gate_dst (N := 2) rfl ?_); refine box_event ?hg (N := 2) ?hd (cs := #[.int .i64 x.f0, .int .i64 x.f1, .int .i64 x.f2, .slice A x.f3.length c]) (t := 29) ?hr ?_; (case hd => rfl); (case hg => rfl); (case hr => first | (go_simp; done) | (go_simp; rfl)); intro gb hg w2 hbox hb; have BK := Aside0.mk hbox; have GB := Aside0.mk ((by rw [hg]; exact Nat.le_refl _ : w.heap.size ≤ gb)); have HS2 := Aside0.mk (Kd.S_below (Kd.S_elderB HS.out gb (Nat.le_of_eq hg.symm)) hb); have HK := Aside0.mk (Kept.of_below hb P); have HB2 := Aside0.mk (below_step HB.out hb); clear HS HB; have HS := HS2; have HB := HB2; clear HS2 HB2 hbox hb hg; have hcx0 : w2.cell? ⟨gb, 0, none⟩ = some (.int .i64 x.f0) := (blk_cell BK.out 0).trans rfl; have hcx1 : w2.cell? ⟨gb, 1, none⟩ = some (.int .i64 x.f1) := (blk_cell BK.out 1).trans rfl; have hcx2 : w2.cell? ⟨gb, 2, none⟩ = some (.int .i64 x.f2) := (blk_cell BK.out 2).trans rfl; have hcx3 : w2.cell? ⟨gb, 3, none⟩ = some (.slice A x.f3.length c) := (blk_cell BK.out 3).trans rfl) | (go_at_call 31; refine (impl_InRange.calls x.f0 2 6 true _ hin).mono ?_; rintro e w' ⟨rfl, ⟨nd, rfl⟩⟩) | (go_at_call 35; refine (impl_LeavesOf.contains k x l0 _ _ c cu gb true _ (by (with_reducible repeat (first | refine blk_drewN ?_ _ | refine blk_drew ?_ | refine blk_alloc ?_ _)); exact BK.out) (Kd.C_below HX.out (by repeat (first | (with_reducible first | exact HB.out | apply below_alloc | apply pw_below_drewN | apply below_drew1) | exact HB.out))) HC.out (by (with_reducible repeat (first | refine Kd.C_alloc ?_ _ | refine Kd.C_drewN ?_ _ | refine Kd.C_drew ?_)); exact (Kd.S_reads' HS.out).2.2) HH.out).mono ?_; rintro e w3 ⟨rfl, hb⟩; have HB3 := Aside0.mk (below_step (by repeat (first | (with_reducible first | exact HB.out | apply below_alloc | apply pw_below_drewN | apply below_drew1) | exact HB.out)) hb); have HS3 := Aside0.mk (Kd.S_below (by (with_reducible repeat (first | apply Kd.S_alloc | apply Kd.S_drewN | apply Kd.S_drew)); exact HS.out) hb); have BK3 := Aside0.mk (blk_below (by (with_reducible repeat (first | refine blk_drewN ?_ _ | refine blk_drew ?_ | refine blk_alloc ?_ _)); exact BK.out) hb); have HK3 := Aside0.mk (Kept.below (w := w) (S := P) (by (with_reducible repeat (first | refine Kept.drew ?_ | refine Kept.drewN ?_ _)); exact HK.out) hb); clear hb HS HB BK HK; have hcw0 : w3.cell? ⟨gb, 0, none⟩ = some (.int .i64 x.f0) := (blk_cell BK3.out 0).trans rfl; have hcw1 : w3.cell? ⟨gb, 1, none⟩ = some (.int .i64 x.f1) := (blk_cell BK3.out 1).trans rfl; have hcw2 : w3.cell? ⟨gb, 2, none⟩ = some (.int .i64 x.f2) := (blk_cell BK3.out 2).trans rfl; have hcw3 : w3.cell? ⟨gb, 3, none⟩ = some (.slice _ x.f3.length c) := (blk_cell BK3.out 3).trans rfl))
        clear hz hin
        (try clear hcx0 hcx1 hcx2 hcx3)
        (try clear hcw0 hcw1 hcw2 hcw3)
        go_loopg [1, 30] x.f3.length (fun gg v0 v6 w' => ∃ (a' b : List S29) (l : List S29), Aside0 (x.f3 = a' ++ b) ∧ b.length ≤ gg ∧ v6 = .int .i64 (a'.length : Int) ∧ Aside0 (b.foldlM (fun l y => impl_LeavesOf.g k y l) l = some r) ∧ Aside0 (Kd.S k29 29 w' w0.heap.size (fun j => (P j ∨ w.heap.size ≤ j) ∧ j ≠ gb) v0 l) ∧ Aside0 (w'.heap[gb]? = some (.cells #[.int .i64 x.f0, .int .i64 x.f1, .int .i64 x.f2, .slice A x.f3.length c] 29 (0, 0))) ∧ Aside0 (Kept w w' P) ∧ Aside0 (Below w0.heap.size w0 w'))
        case atStart => exact ⟨[], x.f3, _, ⟨rfl⟩, Nat.le_refl _, rfl, HR, ⟨(Kd.S_mono HS3.out (fun j hj => ⟨.inl hj.1, hj.2⟩))⟩, ⟨BK3.out⟩, ⟨HK3.out⟩, ⟨HB3.out⟩⟩
        case round =>
          clear HR
          (try clear HS)
          (try clear BK)
          (try clear HK)
          (try clear HB)
          obtain ⟨a', b, l, hl, hgg, rfl, HR, HS, BK, HK, HB⟩ := hrel
          cases b with
          | nil =>
            have hd : decide ((a'.length : Int) < (x.f3.length : Int)) = false := decide_eq_false (by rw [hl.out]; simp)
            have hd2 : ((a'.length : Int) < (x.f3.length : Int)) = False := eq_false (by rw [hl.out]; simp)
            have hd3 : (a'.length < x.f3.length) = False := eq_false (by rw [hl.out]; simp)
            have hr := HR.out
            obtain rfl := Option.some.inj hr
            clear hr
            go_wp2
            go_ret
            exact ⟨_, rfl, Kd.S_mono HS.out (fun j hj => hj.1), HK.out, HB.out⟩
          | cons y b =>
            have hlt : (a'.length : Int) < (x.f3.length : Int) := by rw [hl.out]; simp; omega
            have hd : decide ((a'.length : Int) < (x.f3.length : Int)) = true := decide_eq_true hlt
            have hxx : rd_T29 x.f3 (a'.length : Int) = y := by
              unfold rd_T29
              rw [Int.toNat_natCast, hl.out, List.getD_eq_getElem?_getD, List.getElem?_append_right (Nat.le_refl _), Nat.sub_self]
              rfl
            obtain ⟨ad2, A2, c2, e2, hx0, hx1, hx2, hx3, hl2, hi2⟩ := at_T29 HX.out (a'.length : Int) (by omega) hlt
            have HI2 := Aside0.mk (hxx ▸ hi2 : Kd.C k29 w0 A2 y.f3.length y.f3)
            have HL2 := Aside0.mk (hxx ▸ hl2 : y.f3.length ≤ c2)
            clear hi2 hl2
            rw [hxx] at hx0 hx1 hx2 hx3
            cases e2
            replace hx0 := (HB.out.cell (World.block_lt_of_cell? w0 _ hx0)).trans hx0
            replace hx1 := (HB.out.cell (World.block_lt_of_cell? w0 _ hx1)).trans hx1
            replace hx2 := (HB.out.cell (World.block_lt_of_cell? w0 _ hx2)).trans hx2
            replace hx3 := (HB.out.cell (World.block_lt_of_cell? w0 _ hx3)).trans hx3
            have hlt' := eq_true hlt
            simp only [Int.toNat_natCast] at hx0 hx1 hx2 hx3
            cases gk with
            | zero => exact absurd hgg (by simp)
            | succ g1 =>
            have hr := HR.out
            clear HR
            rw [List.foldlM_cons] at hr
            cases hy : impl_LeavesOf.g k y l with
            | none => rw [hy] at hr; cases hr
            | some l1 =>
            rw [hy] at hr
            have HY := Aside0.mk hy
            have HR : Aside0 (b.foldlM (fun l y => impl_LeavesOf.g k y l) l1 = some r) := ⟨hr⟩
            clear hy hr
            go_wp2_with (first | ((with_reducible refine gate_dst (N := 6) rfl ?_); refine box_event ?hg (N := 6) ?hd (cs := #[.int .i64 0, .int .i64 0, .int .i64 0, .slice none 0 0]) (t := 29) ?hr ?_; (case hd => rfl); (case hg => rfl); (case hr => first | (go_simp; done) | (go_simp; rfl)); intro ga hg w5 hbox hb; have BA := Aside0.mk hbox; have GA := Aside0.mk (And.intro (by rw [hg]; exact HK.out.1 : w.heap.size ≤ ga) (by rw [hg]; exact below_size HB.out : w0.heap.size ≤ ga)); have NE := Aside0.mk (by have := blk_lt BK.out; omega : gb ≠ ga); have HS5 := Aside0.mk (Kd.S_below (Kd.S_elderB HS.out ga (Nat.le_of_eq hg.symm)) hb); have BK5 := Aside0.mk (blk_below BK.out hb); have HK5 := Aside0.mk (HK.out.below hb); have HB5 := Aside0.mk (below_step HB.out hb); clear HS HB HK BK hbox hb hg; have hca0 : w5.cell? ⟨ga, 0, none⟩ = some (.int .i64 0) := (blk_cell BA.out 0).trans rfl; have hca1 : w5.cell? ⟨ga, 1, none⟩ = some (.int .i64 0) := (blk_cell BA.out 1).trans rfl; have hca2 : w5.cell? ⟨ga, 2, none⟩ = some (.int .i64 0) := (blk_cell BA.out 2).trans rfl; have hca3 : w5.cell? ⟨ga, 3, none⟩ = some (.slice none 0 0) := (blk_cell BA.out 3).trans rfl; have hfa0 := blk_frozen BA.out 0; have hfa1 := blk_frozen BA.out 1; have hfa2 := blk_frozen BA.out 2; have hfa3 := blk_frozen BA.out 3) | (go_at_call 26; have hb6 : Below w0.heap.size w0 ((((w5.setCell ⟨ga, 0, none⟩ (.int .i64 y.f0)).setCell ⟨ga, 1, none⟩ (.int .i64 y.f1)).setCell ⟨ga, 2, none⟩ (.int .i64 y.f2)).setCell ⟨ga, 3, none⟩ (.slice A2 y.f3.length c2)) := below_set (below_set (below_set (below_set HB5.out GA.out.2) GA.out.2) GA.out.2) GA.out.2; have hk6 : Kept w ((((w5.setCell ⟨ga, 0, none⟩ (.int .i64 y.f0)).setCell ⟨ga, 1, none⟩ (.int .i64 y.f1)).setCell ⟨ga, 2, none⟩ (.int .i64 y.f2)).setCell ⟨ga, 3, none⟩ (.slice A2 y.f3.length c2)) P := Kept.setCell (Kept.setCell (Kept.setCell (Kept.setCell HK5.out (.inr GA.out.1) _) (.inr GA.out.1) _) (.inr GA.out.1) _) (.inr GA.out.1) _; have hs6 := Kd.S_far (p := ⟨ga, 3, none⟩) (Kd.S_far (p := ⟨ga, 2, none⟩) (Kd.S_far (p := ⟨ga, 1, none⟩) (Kd.S_far (p := ⟨ga, 0, none⟩) HS5.out (fun _ hk => hk.2) (.int .i64 y.f0)) (fun _ hk => hk.2) (.int .i64 y.f1)) (fun _ hk => hk.2) (.int .i64 y.f2)) (fun _ hk => hk.2) (.slice A2 y.f3.length c2); have bk6 : ((((w5.setCell ⟨ga, 0, none⟩ (.int .i64 y.f0)).setCell ⟨ga, 1, none⟩ (.int .i64 y.f1)).setCell ⟨ga, 2, none⟩ (.int .i64 y.f2)).setCell ⟨ga, 3, none⟩ (.slice A2 y.f3.length c2)).heap[gb]? = some (.cells #[.int .i64 x.f0, .int .i64 x.f1, .int .i64 x.f2, .slice _ x.f3.length c] 29 (0, 0)) := blk_far (blk_far (blk_far (blk_far BK5.out NE.out _) NE.out _) NE.out _) NE.out _; refine (ih l _ y _ _ l1 (fun j => ((P j ∨ w.heap.size ≤ j) ∧ j ≠ gb) ∧ j ≠ ga) w0 ((((w5.setCell ⟨ga, 0, none⟩ (.int .i64 y.f0)).setCell ⟨ga, 1, none⟩ (.int .i64 y.f1)).setCell ⟨ga, 2, none⟩ (.int .i64 y.f2)).setCell ⟨ga, 3, none⟩ (.slice A2 y.f3.length c2)) hb6 hs6 HI2.out HL2.out HY.out).mono ?_; rintro e w7 ⟨v3, rfl, hs3, hk3, hb3⟩; have HS3 := Aside0.mk (Kd.S_mono hs3 (ok' := fun j => (P j ∨ w.heap.size ≤ j) ∧ j ≠ gb) (fun j hj => hj.elim (fun q => q.1) (fun q => ⟨.inr (Nat.le_trans hk6.1 q), fun e => by have := blk_lt bk6; omega⟩))); have BK3 := Aside0.mk (blk_kept bk6 hk3 (fun q => q.1.2 rfl)); have HK3 := Aside0.mk (hk6.then_ hk3 (fun j hj => hj.1.1)); have HB3 := Aside0.mk hb3; clear hs3 hk3 hb3 hb6 hk6 hs6 bk6))
            go_roundg g1
            case measure => omega
            case rel => exact ⟨a' ++ [y], b, l1, ⟨by rw [hl.out]; simp⟩, by simp at hgg; omega, by have := HX0.out; rw [List.length_append]; unfold wrap64; rw [hl.out] at this; simp at this ⊢; omega, HR, HS3, BK3, HK3, HB3⟩
      | false =>
        rw [if_neg (by simp)] at h
        cases hy : impl_copyCond.f k x.f0 x.f1 x.f2 x.f3 with
        | none => rw [hy] at h; cases h
        | some y =>
        obtain ⟨y0, y1, y2, y3⟩ := y
        rw [hy, Option.bind_some] at h
        by_cases hlm : l0.length < 2932031007402
        · rw [if_pos hlm, Option.bind_some] at h
          have HLM := Aside0.mk hlm
          have HY := Aside0.mk hy
          have HR := Aside0.mk h
          clear hlm hy h
          go_enter Try.func26, Try.ntmps26
          go_wp2_with (first | ((with_reducible refine gate_dst (N := 2) rfl ?_); refine box_event ?hg (N := 2) ?hd (cs := #[.int .i64 x.f0, .int .i64 x.f1, .int .i64 x.f2, .slice A x.f3.length c]) (t := 29) ?hr ?_; (case hd => rfl); (case hg => rfl); (case hr => first | (go_simp; done) | (go_simp; rfl)); intro gb hg w2 hbox hb; have BK := Aside0.mk hbox; have GB := Aside0.mk ((by rw [hg]; exact Nat.le_refl _ : w.heap.size ≤ gb)); have HS2 := Aside0.mk (Kd.S_below (Kd.S_elderB HS.out gb (Nat.le_of_eq hg.symm)) hb); have HK := Aside0.mk (Kept.of_below hb P); have HB2 := Aside0.mk (below_step HB.out hb); clear HS HB; have HS := HS2; have HB := HB2; clear HS2 HB2 hbox hb hg; have hcx0 : w2.cell? ⟨gb, 0, none⟩ = some (.int .i64 x.f0) := (blk_cell BK.out 0).trans rfl; have hcx1 : w2.cell? ⟨gb, 1, none⟩ = some (.int .i64 x.f1) := (blk_cell BK.out 1).trans rfl; have hcx2 : w2.cell? ⟨gb, 2, none⟩ = some (.int .i64 x.f2) := (blk_cell BK.out 2).trans rfl; have hcx3 : w2.cell? ⟨gb, 3, none⟩ = some (.slice A x.f3.length c) := (blk_cell BK.out 3).trans rfl) | (go_at_call 31; refine (impl_InRange.calls x.f0 2 6 true _ hin).mono ?_; rintro e w' ⟨rfl, ⟨nd, rfl⟩⟩) | (go_at_call 35; refine (impl_LeavesOf.contains k x l0 _ _ c cu gb false _ (by (with_reducible repeat (first | refine blk_drewN ?_ _ | refine blk_drew ?_ | refine blk_alloc ?_ _)); exact BK.out) (Kd.C_below HX.out (by repeat (first | (with_reducible first | exact HB.out | apply below_alloc | apply pw_below_drewN | apply below_drew1) | exact HB.out))) HC.out (by (with_reducible repeat (first | refine Kd.C_alloc ?_ _ | refine Kd.C_drewN ?_ _ | refine Kd.C_drew ?_)); exact (Kd.S_reads' HS.out).2.2) HH.out).mono ?_; rintro e w3 ⟨rfl, hb⟩; have HB3 := Aside0.mk (below_step (by repeat (first | (with_reducible first | exact HB.out | apply below_alloc | apply pw_below_drewN | apply below_drew1) | exact HB.out)) hb); have HS3 := Aside0.mk (Kd.S_below (by (with_reducible repeat (first | apply Kd.S_alloc | apply Kd.S_drewN | apply Kd.S_drew)); exact HS.out) hb); have BK3 := Aside0.mk (blk_below (by (with_reducible repeat (first | refine blk_drewN ?_ _ | refine blk_drew ?_ | refine blk_alloc ?_ _)); exact BK.out) hb); have HK3 := Aside0.mk (Kept.below (w := w) (S := P) (by (with_reducible repeat (first | refine Kept.drew ?_ | refine Kept.drewN ?_ _)); exact HK.out) hb); clear hb HS HB BK HK; have hcw0 : w3.cell? ⟨gb, 0, none⟩ = some (.int .i64 x.f0) := (blk_cell BK3.out 0).trans rfl; have hcw1 : w3.cell? ⟨gb, 1, none⟩ = some (.int .i64 x.f1) := (blk_cell BK3.out 1).trans rfl; have hcw2 : w3.cell? ⟨gb, 2, none⟩ = some (.int .i64 x.f2) := (blk_cell BK3.out 2).trans rfl; have hcw3 : w3.cell? ⟨gb, 3, none⟩ = some (.slice _ x.f3.length c) := (blk_cell BK3.out 3).trans rfl) | (go_at_call 28; refine (impl_copyCond.calls k x.f0 x.f1 x.f2 _ _ x.f3 y0 y1 y2 y3 w3 (Kd.C_below HX.out HB3.out) HC.out HY.out).mono ?_; rintro e w5 ⟨v3, rfl, ho0, hb⟩; obtain ⟨A3, c3, rfl⟩ := Kd.S_slice ho0; have HL := Aside0.mk (Kd.S_old HS3.out hb); have HN := Aside0.mk (Kd.S_lower (Kd.S_mono (Kd.S_bound ho0) (ok' := fun j => w3.heap.size ≤ j) (fun j hj => hj.2.1)) (below_size HB3.out)); have GW := Aside0.mk (And.intro (blk_lt BK3.out) HK3.out.1); have GU := Aside0.mk (fun j (hj : (Value.slice Au l0.length cu).ownBlock = some j) => And.intro (Kd.S_lt HS3.out j hj) ((Kd.S_R HS3.out).1 j hj)); have HK5 := Aside0.mk (HK3.out.below hb); have HB5 := Aside0.mk (below_step HB3.out hb); have BK5 := Aside0.mk (blk_below BK3.out hb); have GZ := Aside0.mk hb.size; clear HS3 HK3 HB3 BK3 hb ho0) | ((with_reducible refine gate_builtin (b := .append) (xs := #[.tmp 22, .tmp 25]) rfl ?_); at_builtin; refine Kd.S_append k29 (w0 := w0) w0.heap.size rfl (.tmp 22) (.tmp 25) 26 29 (.agg #[(.int .i64 0), (.int .i64 0), (.int .i64 0), (.slice none 0 0)]) 48 rfl Try.underlying26 info29 rfl (by decide) (by omega) (.slice Au l0.length cu) l0 (⟨y0, y1, y2, y3⟩ : S29) [.int .i64 y0, .int .i64 y1, .int .i64 y2, .slice A3 y3.length c3] (fun j => (P j ∨ w.heap.size ≤ j) ∧ j ≠ gb) (fun j => w3.heap.size ≤ j) rfl rfl ?aP ?aK ?aF ?aO ?aB ?aS ?aL ?_; (case aP => exact k29_mkM _ _ _ (⟨y0, y1, y2, y3⟩ : S29) HN.out); (case aK => exact fun j hj => ⟨⟨.inr (Nat.le_trans GW.out.2 hj), fun e => by have := GW.out.1; omega⟩, fun e => by have := (GU.out j e.symm).1; omega⟩); (case aF => exact fun j hj => ⟨.inr (Nat.le_trans (Nat.le_trans GW.out.2 GZ.out) hj), fun e => by have := GW.out.1; have := GZ.out; omega⟩); (case aO => exact Kd.S_mono HL.out (fun j hj => ⟨⟨.inl hj.1.1, hj.1.2⟩, fun e => by have := hj.2; omega⟩)); (case aB => exact HB5.out); (case aS => exact below_size HB5.out); (case aL => have := HLM.out; omega); intro v1 w4 ho hb4 hg hat; have HS4 := Aside0.mk ho; have HB4 := Aside0.mk hb4; have HK4 := Aside0.mk (Kept.of_grown hg HK5.out (fun j hj => .inl (GU.out j hj).2.1)); have BK4 := Aside0.mk (blk_grown BK5.out hg (fun e => (GU.out gb e.symm).2.2 rfl)); clear ho hb4 hg hat; have hcw0 : w4.cell? ⟨gb, 0, none⟩ = some (.int .i64 x.f0) := (blk_cell BK4.out 0).trans rfl; have hcw1 : w4.cell? ⟨gb, 1, none⟩ = some (.int .i64 x.f1) := (blk_cell BK4.out 1).trans rfl; have hcw2 : w4.cell? ⟨gb, 2, none⟩ = some (.int .i64 x.f2) := (blk_cell BK4.out 2).trans rfl; have hcw3 : w4.cell? ⟨gb, 3, none⟩ = some (.slice _ x.f3.length c) := (blk_cell BK4.out 3).trans rfl))
          clear hz hin
          (try clear hcx0 hcx1 hcx2 hcx3)
          (try clear hcw0 hcw1 hcw2 hcw3)
          go_loopg [1, 30] x.f3.length (fun gg v0 v6 w' => ∃ (a' b : List S29) (l : List S29), Aside0 (x.f3 = a' ++ b) ∧ b.length ≤ gg ∧ v6 = .int .i64 (a'.length : Int) ∧ Aside0 (b.foldlM (fun l y => impl_LeavesOf.g k y l) l = some r) ∧ Aside0 (Kd.S k29 29 w' w0.heap.size (fun j => (P j ∨ w.heap.size ≤ j) ∧ j ≠ gb) v0 l) ∧ Aside0 (w'.heap[gb]? = some (.cells #[.int .i64 x.f0, .int .i64 x.f1, .int .i64 x.f2, .slice A x.f3.length c] 29 (0, 0))) ∧ Aside0 (Kept w w' P) ∧ Aside0 (Below w0.heap.size w0 w'))
          case atStart => exact ⟨[], x.f3, _, ⟨rfl⟩, Nat.le_refl _, rfl, HR, ⟨HS4.out⟩, ⟨BK4.out⟩, ⟨HK4.out⟩, ⟨HB4.out⟩⟩
          case round =>
            clear HR
            (try clear HS)
            (try clear BK)
            (try clear HK)
            (try clear HB)
            obtain ⟨a', b, l, hl, hgg, rfl, HR, HS, BK, HK, HB⟩ := hrel
            cases b with
            | nil =>
              have hd : decide ((a'.length : Int) < (x.f3.length : Int)) = false := decide_eq_false (by rw [hl.out]; simp)
              have hd2 : ((a'.length : Int) < (x.f3.length : Int)) = False := eq_false (by rw [hl.out]; simp)
              have hd3 : (a'.length < x.f3.length) = False := eq_false (by rw [hl.out]; simp)
              have hr := HR.out
              obtain rfl := Option.some.inj hr
              clear hr
              go_wp2
              go_ret
              exact ⟨_, rfl, Kd.S_mono HS.out (fun j hj => hj.1), HK.out, HB.out⟩
            | cons y b =>
              have hlt : (a'.length : Int) < (x.f3.length : Int) := by rw [hl.out]; simp; omega
              have hd : decide ((a'.length : Int) < (x.f3.length : Int)) = true := decide_eq_true hlt
              have hxx : rd_T29 x.f3 (a'.length : Int) = y := by
                unfold rd_T29
                rw [Int.toNat_natCast, hl.out, List.getD_eq_getElem?_getD, List.getElem?_append_right (Nat.le_refl _), Nat.sub_self]
                rfl
              obtain ⟨ad2, A2, c2, e2, hx0, hx1, hx2, hx3, hl2, hi2⟩ := at_T29 HX.out (a'.length : Int) (by omega) hlt
              have HI2 := Aside0.mk (hxx ▸ hi2 : Kd.C k29 w0 A2 y.f3.length y.f3)
              have HL2 := Aside0.mk (hxx ▸ hl2 : y.f3.length ≤ c2)
              clear hi2 hl2
              rw [hxx] at hx0 hx1 hx2 hx3
              cases e2
              replace hx0 := (HB.out.cell (World.block_lt_of_cell? w0 _ hx0)).trans hx0
              replace hx1 := (HB.out.cell (World.block_lt_of_cell? w0 _ hx1)).trans hx1
              replace hx2 := (HB.out.cell (World.block_lt_of_cell? w0 _ hx2)).trans hx2
              replace hx3 := (HB.out.cell (World.block_lt_of_cell? w0 _ hx3)).trans hx3
              have hlt' := eq_true hlt
              simp only [Int.toNat_natCast] at hx0 hx1 hx2 hx3
              cases gk with
              | zero => exact absurd hgg (by simp)
              | succ g1 =>
              have hr := HR.out
              clear HR
              rw [List.foldlM_cons] at hr
              cases hy : impl_LeavesOf.g k y l with
              | none => rw [hy] at hr; cases hr
              | some l1 =>
              rw [hy] at hr
              have HY := Aside0.mk hy
              have HR : Aside0 (b.foldlM (fun l y => impl_LeavesOf.g k y l) l1 = some r) := ⟨hr⟩
              clear hy hr
              go_wp2_with (first | ((with_reducible refine gate_dst (N := 6) rfl ?_); refine box_event ?hg (N := 6) ?hd (cs := #[.int .i64 0, .int .i64 0, .int .i64 0, .slice none 0 0]) (t := 29) ?hr ?_; (case hd => rfl); (case hg => rfl); (case hr => first | (go_simp; done) | (go_simp; rfl)); intro ga hg w5 hbox hb; have BA := Aside0.mk hbox; have GA := Aside0.mk (And.intro (by rw [hg]; exact HK.out.1 : w.heap.size ≤ ga) (by rw [hg]; exact below_size HB.out : w0.heap.size ≤ ga)); have NE := Aside0.mk (by have := blk_lt BK.out; omega : gb ≠ ga); have HS5 := Aside0.mk (Kd.S_below (Kd.S_elderB HS.out ga (Nat.le_of_eq hg.symm)) hb); have BK5 := Aside0.mk (blk_below BK.out hb); have HK5 := Aside0.mk (HK.out.below hb); have HB5 := Aside0.mk (below_step HB.out hb); clear HS HB HK BK hbox hb hg; have hca0 : w5.cell? ⟨ga, 0, none⟩ = some (.int .i64 0) := (blk_cell BA.out 0).trans rfl; have hca1 : w5.cell? ⟨ga, 1, none⟩ = some (.int .i64 0) := (blk_cell BA.out 1).trans rfl; have hca2 : w5.cell? ⟨ga, 2, none⟩ = some (.int .i64 0) := (blk_cell BA.out 2).trans rfl; have hca3 : w5.cell? ⟨ga, 3, none⟩ = some (.slice none 0 0) := (blk_cell BA.out 3).trans rfl; have hfa0 := blk_frozen BA.out 0; have hfa1 := blk_frozen BA.out 1; have hfa2 := blk_frozen BA.out 2; have hfa3 := blk_frozen BA.out 3) | (go_at_call 26; have hb6 : Below w0.heap.size w0 ((((w5.setCell ⟨ga, 0, none⟩ (.int .i64 y.f0)).setCell ⟨ga, 1, none⟩ (.int .i64 y.f1)).setCell ⟨ga, 2, none⟩ (.int .i64 y.f2)).setCell ⟨ga, 3, none⟩ (.slice A2 y.f3.length c2)) := below_set (below_set (below_set (below_set HB5.out GA.out.2) GA.out.2) GA.out.2) GA.out.2; have hk6 : Kept w ((((w5.setCell ⟨ga, 0, none⟩ (.int .i64 y.f0)).setCell ⟨ga, 1, none⟩ (.int .i64 y.f1)).setCell ⟨ga, 2, none⟩ (.int .i64 y.f2)).setCell ⟨ga, 3, none⟩ (.slice A2 y.f3.length c2)) P := Kept.setCell (Kept.setCell (Kept.setCell (Kept.setCell HK5.out (.inr GA.out.1) _) (.inr GA.out.1) _) (.inr GA.out.1) _) (.inr GA.out.1) _; have hs6 := Kd.S_far (p := ⟨ga, 3, none⟩) (Kd.S_far (p := ⟨ga, 2, none⟩) (Kd.S_far (p := ⟨ga, 1, none⟩) (Kd.S_far (p := ⟨ga, 0, none⟩) HS5.out (fun _ hk => hk.2) (.int .i64 y.f0)) (fun _ hk => hk.2) (.int .i64 y.f1)) (fun _ hk => hk.2) (.int .i64 y.f2)) (fun _ hk => hk.2) (.slice A2 y.f3.length c2); have bk6 : ((((w5.setCell ⟨ga, 0, none⟩ (.int .i64 y.f0)).setCell ⟨ga, 1, none⟩ (.int .i64 y.f1)).setCell ⟨ga, 2, none⟩ (.int .i64 y.f2)).setCell ⟨ga, 3, none⟩ (.slice A2 y.f3.length c2)).heap[gb]? = some (.cells #[.int .i64 x.f0, .int .i64 x.f1, .int .i64 x.f2, .slice _ x.f3.length c] 29 (0, 0)) := blk_far (blk_far (blk_far (blk_far BK5.out NE.out _) NE.out _) NE.out _) NE.out _; refine (ih l _ y _ _ l1 (fun j => ((P j ∨ w.heap.size ≤ j) ∧ j ≠ gb) ∧ j ≠ ga) w0 ((((w5.setCell ⟨ga, 0, none⟩ (.int .i64 y.f0)).setCell ⟨ga, 1, none⟩ (.int .i64 y.f1)).setCell ⟨ga, 2, none⟩ (.int .i64 y.f2)).setCell ⟨ga, 3, none⟩ (.slice A2 y.f3.length c2)) hb6 hs6 HI2.out HL2.out HY.out).mono ?_; rintro e w7 ⟨v3, rfl, hs3, hk3, hb3⟩; have HS3 := Aside0.mk (Kd.S_mono hs3 (ok' := fun j => (P j ∨ w.heap.size ≤ j) ∧ j ≠ gb) (fun j hj => hj.elim (fun q => q.1) (fun q => ⟨.inr (Nat.le_trans hk6.1 q), fun e => by have := blk_lt bk6; omega⟩))); have BK3 := Aside0.mk (blk_kept bk6 hk3 (fun q => q.1.2 rfl)); have HK3 := Aside0.mk (hk6.then_ hk3 (fun j hj => hj.1.1)); have HB3 := Aside0.mk hb3; clear hs3 hk3 hb3 hb6 hk6 hs6 bk6))
              go_roundg g1
              case measure => omega
              case rel => exact ⟨a' ++ [y], b, l1, ⟨by rw [hl.out]; simp⟩, by simp at hgg; omega, by have := HX0.out; rw [List.length_append]; unfold wrap64; rw [hl.out] at this; simp at this ⊢; omega, HR, HS3, BK3, HK3, HB3⟩
        · rw [if_neg hlm] at h
          cases h
    · rw [if_neg (fun q => hz0 q.2.2), Option.bind_some] at h
      have hz : ((x.f3.length : Int) == 0) = false := by simp; exact fun e => hz0 (by rw [e]; rfl)
      have HR := Aside0.mk h
      clear h hz0 c0
      go_enter Try.func26, Try.ntmps26
      go_wp2_with (first | ((with_reducible refine gate_dst (N := 2) rfl ?_); refine box_event ?hg (N := 2) ?hd (cs := #[.int .i64 x.f0, .int .i64 x.f1, .int .i64 x.f2, .slice A x.f3.length c]) (t := 29) ?hr ?_; (case hd => rfl); (case hg => rfl); (case hr => first | (go_simp; done) | (go_simp; rfl)); intro gb hg w2 hbox hb; have BK := Aside0.mk hbox; have GB := Aside0.mk ((by rw [hg]; exact Nat.le_refl _ : w.heap.size ≤ gb)); have HS2 := Aside0.mk (Kd.S_below (Kd.S_elderB HS.out gb (Nat.le_of_eq hg.symm)) hb); have HK := Aside0.mk (Kept.of_below hb P); have HB2 := Aside0.mk (below_step HB.out hb); clear HS HB; have HS := HS2; have HB := HB2; clear HS2 HB2 hbox hb hg; have hcx0 : w2.cell? ⟨gb, 0, none⟩ = some (.int .i64 x.f0) := (blk_cell BK.out 0).trans rfl; have hcx1 : w2.cell? ⟨gb, 1, none⟩ = some (.int .i64 x.f1) := (blk_cell BK.out 1).trans rfl; have hcx2 : w2.cell? ⟨gb, 2, none⟩ = some (.int .i64 x.f2) := (blk_cell BK.out 2).trans rfl; have hcx3 : w2.cell? ⟨gb, 3, none⟩ = some (.slice A x.f3.length c) := (blk_cell BK.out 3).trans rfl) | (go_at_call 31; refine (impl_InRange.calls x.f0 2 6 true _ hin).mono ?_; rintro e w' ⟨rfl, ⟨nd, rfl⟩⟩))
      clear hz hin
      (try clear hcx0 hcx1 hcx2 hcx3)
      (try clear hcw0 hcw1 hcw2 hcw3)
      go_loopg [1, 30] x.f3.length (fun gg v0 v6 w' => ∃ (a' b : List S29) (l : List S29), Aside0 (x.f3 = a' ++ b) ∧ b.length ≤ gg ∧ v6 = .int .i64 (a'.length : Int) ∧ Aside0 (b.foldlM (fun l y => impl_LeavesOf.g k y l) l = some r) ∧ Aside0 (Kd.S k29 29 w' w0.heap.size (fun j => (P j ∨ w.heap.size ≤ j) ∧ j ≠ gb) v0 l) ∧ Aside0 (w'.heap[gb]? = some (.cells #[.int .i64 x.f0, .int .i64 x.f1, .int .i64 x.f2, .slice A x.f3.length c] 29 (0, 0))) ∧ Aside0 (Kept w w' P) ∧ Aside0 (Below w0.heap.size w0 w'))
      case atStart => exact ⟨[], x.f3, _, ⟨rfl⟩, Nat.le_refl _, rfl, HR, ⟨(Kd.S_mono (Kd.S_drewN HS.out _) (fun j hj => ⟨.inl hj.1, hj.2⟩))⟩, ⟨(blk_drewN BK.out _)⟩, ⟨(Kept.drewN HK.out _)⟩, ⟨(pw_below_drewN HB.out _)⟩⟩
      case round =>
        clear HR
        (try clear HS)
        (try clear BK)
        (try clear HK)
        (try clear HB)
        obtain ⟨a', b, l, hl, hgg, rfl, HR, HS, BK, HK, HB⟩ := hrel
        cases b with
        | nil =>
          have hd : decide ((a'.length : Int) < (x.f3.length : Int)) = false := decide_eq_false (by rw [hl.out]; simp)
          have hd2 : ((a'.length : Int) < (x.f3.length : Int)) = False := eq_false (by rw [hl.out]; simp)
          have hd3 : (a'.length < x.f3.length) = False := eq_false (by rw [hl.out]; simp)
          have hr := HR.out
          obtain rfl := Option.some.inj hr
          clear hr
          go_wp2
          go_ret
          exact ⟨_, rfl, Kd.S_mono HS.out (fun j hj => hj.1), HK.out, HB.out⟩
        | cons y b =>
          have hlt : (a'.length : Int) < (x.f3.length : Int) := by rw [hl.out]; simp; omega
          have hd : decide ((a'.length : Int) < (x.f3.length : Int)) = true := decide_eq_true hlt
          have hxx : rd_T29 x.f3 (a'.length : Int) = y := by
            unfold rd_T29
            rw [Int.toNat_natCast, hl.out, List.getD_eq_getElem?_getD, List.getElem?_append_right (Nat.le_refl _), Nat.sub_self]
            rfl
          obtain ⟨ad2, A2, c2, e2, hx0, hx1, hx2, hx3, hl2, hi2⟩ := at_T29 HX.out (a'.length : Int) (by omega) hlt
          have HI2 := Aside0.mk (hxx ▸ hi2 : Kd.C k29 w0 A2 y.f3.length y.f3)
          have HL2 := Aside0.mk (hxx ▸ hl2 : y.f3.length ≤ c2)
          clear hi2 hl2
          rw [hxx] at hx0 hx1 hx2 hx3
          cases e2
          replace hx0 := (HB.out.cell (World.block_lt_of_cell? w0 _ hx0)).trans hx0
          replace hx1 := (HB.out.cell (World.block_lt_of_cell? w0 _ hx1)).trans hx1
          replace hx2 := (HB.out.cell (World.block_lt_of_cell? w0 _ hx2)).trans hx2
          replace hx3 := (HB.out.cell (World.block_lt_of_cell? w0 _ hx3)).trans hx3
          have hlt' := eq_true hlt
          simp only [Int.toNat_natCast] at hx0 hx1 hx2 hx3
          cases gk with
          | zero => exact absurd hgg (by simp)
          | succ g1 =>
          have hr := HR.out
          clear HR
          rw [List.foldlM_cons] at hr
          cases hy : impl_LeavesOf.g k y l with
          | none => rw [hy] at hr; cases hr
          | some l1 =>
          rw [hy] at hr
          have HY := Aside0.mk hy
          have HR : Aside0 (b.foldlM (fun l y => impl_LeavesOf.g k y l) l1 = some r) := ⟨hr⟩
          clear hy hr
          go_wp2_with (first | ((with_reducible refine gate_dst (N := 6) rfl ?_); refine box_event ?hg (N := 6) ?hd (cs := #[.int .i64 0, .int .i64 0, .int .i64 0, .slice none 0 0]) (t := 29) ?hr ?_; (case hd => rfl); (case hg => rfl); (case hr => first | (go_simp; done) | (go_simp; rfl)); intro ga hg w5 hbox hb; have BA := Aside0.mk hbox; have GA := Aside0.mk (And.intro (by rw [hg]; exact HK.out.1 : w.heap.size ≤ ga) (by rw [hg]; exact below_size HB.out : w0.heap.size ≤ ga)); have NE := Aside0.mk (by have := blk_lt BK.out; omega : gb ≠ ga); have HS5 := Aside0.mk (Kd.S_below (Kd.S_elderB HS.out ga (Nat.le_of_eq hg.symm)) hb); have BK5 := Aside0.mk (blk_below BK.out hb); have HK5 := Aside0.mk (HK.out.below hb); have HB5 := Aside0.mk (below_step HB.out hb); clear HS HB HK BK hbox hb hg; have hca0 : w5.cell? ⟨ga, 0, none⟩ = some (.int .i64 0) := (blk_cell BA.out 0).trans rfl; have hca1 : w5.cell? ⟨ga, 1, none⟩ = some (.int .i64 0) := (blk_cell BA.out 1).trans rfl; have hca2 : w5.cell? ⟨ga, 2, none⟩ = some (.int .i64 0) := (blk_cell BA.out 2).trans rfl; have hca3 : w5.cell? ⟨ga, 3, none⟩ = some (.slice none 0 0) := (blk_cell BA.out 3).trans rfl; have hfa0 := blk_frozen BA.out 0; have hfa1 := blk_frozen BA.out 1; have hfa2 := blk_frozen BA.out 2; have hfa3 := blk_frozen BA.out 3) | (go_at_call 26; have hb6 : Below w0.heap.size w0 ((((w5.setCell ⟨ga, 0, none⟩ (.int .i64 y.f0)).setCell ⟨ga, 1, none⟩ (.int .i64 y.f1)).setCell ⟨ga, 2, none⟩ (.int .i64 y.f2)).setCell ⟨ga, 3, none⟩ (.slice A2 y.f3.length c2)) := below_set (below_set (below_set (below_set HB5.out GA.out.2) GA.out.2) GA.out.2) GA.out.2; have hk6 : Kept w ((((w5.setCell ⟨ga, 0, none⟩ (.int .i64 y.f0)).setCell ⟨ga, 1, none⟩ (.int .i64 y.f1)).setCell ⟨ga, 2, none⟩ (.int .i64 y.f2)).setCell ⟨ga, 3, none⟩ (.slice A2 y.f3.length c2)) P := Kept.setCell (Kept.setCell (Kept.setCell (Kept.setCell HK5.out (.inr GA.out.1) _) (.inr GA.out.1) _) (.inr GA.out.1) _) (.inr GA.out.1) _; have hs6 := Kd.S_far (p := ⟨ga, 3, none⟩) (Kd.S_far (p := ⟨ga, 2, none⟩) (Kd.S_far (p := ⟨ga, 1, none⟩) (Kd.S_far (p := ⟨ga, 0, none⟩) HS5.out (fun _ hk => hk.2) (.int .i64 y.f0)) (fun _ hk => hk.2) (.int .i64 y.f1)) (fun _ hk => hk.2) (.int .i64 y.f2)) (fun _ hk => hk.2) (.slice A2 y.f3.length c2); have bk6 : ((((w5.setCell ⟨ga, 0, none⟩ (.int .i64 y.f0)).setCell ⟨ga, 1, none⟩ (.int .i64 y.f1)).setCell ⟨ga, 2, none⟩ (.int .i64 y.f2)).setCell ⟨ga, 3, none⟩ (.slice A2 y.f3.length c2)).heap[gb]? = some (.cells #[.int .i64 x.f0, .int .i64 x.f1, .int .i64 x.f2, .slice _ x.f3.length c] 29 (0, 0)) := blk_far (blk_far (blk_far (blk_far BK5.out NE.out _) NE.out _) NE.out _) NE.out _; refine (ih l _ y _ _ l1 (fun j => ((P j ∨ w.heap.size ≤ j) ∧ j ≠ gb) ∧ j ≠ ga) w0 ((((w5.setCell ⟨ga, 0, none⟩ (.int .i64 y.f0)).setCell ⟨ga, 1, none⟩ (.int .i64 y.f1)).setCell ⟨ga, 2, none⟩ (.int .i64 y.f2)).setCell ⟨ga, 3, none⟩ (.slice A2 y.f3.length c2)) hb6 hs6 HI2.out HL2.out HY.out).mono ?_; rintro e w7 ⟨v3, rfl, hs3, hk3, hb3⟩; have HS3 := Aside0.mk (Kd.S_mono hs3 (ok' := fun j => (P j ∨ w.heap.size ≤ j) ∧ j ≠ gb) (fun j hj => hj.elim (fun q => q.1) (fun q => ⟨.inr (Nat.le_trans hk6.1 q), fun e => by have := blk_lt bk6; omega⟩))); have BK3 := Aside0.mk (blk_kept bk6 hk3 (fun q => q.1.2 rfl)); have HK3 := Aside0.mk (hk6.then_ hk3 (fun j hj => hj.1.1)); have HB3 := Aside0.mk hb3; clear hs3 hk3 hb3 hb6 hk6 hs6 bk6))
          go_roundg g1
          case measure => omega
          case rel => exact ⟨a' ++ [y], b, l1, ⟨by rw [hl.out]; simp⟩, by simp at hgg; omega, by have := HX0.out; rw [List.length_append]; unfold wrap64; rw [hl.out] at this; simp at this ⊢; omega, HR, HS3, BK3, HK3, HB3⟩
  · rw [decide_eq_false c0] at hin
    rw [if_neg (fun q => c0 ⟨q.1, q.2.1⟩), Option.bind_some] at h
    have HR := Aside0.mk h
    clear h c0
    go_enter Try.func26, Try.ntmps26
    go_wp2_with (first | ((with_reducible refine gate_dst (N := 2) rfl ?_); refine box_event ?hg (N := 2) ?hd (cs := #[.int .i64 x.f0, .int .i64 x.f1, .int .i64 x.f2, .slice A x.f3.length c]) (t := 29) ?hr ?_; (case hd => rfl); (case hg => rfl); (case hr => first | (go_simp; done) | (go_simp; rfl)); intro gb hg w2 hbox hb; have BK := Aside0.mk hbox; have GB := Aside0.mk ((by rw [hg]; exact Nat.le_refl _ : w.heap.size ≤ gb)); have HS2 := Aside0.mk (Kd.S_below (Kd.S_elderB HS.out gb (Nat.le_of_eq hg.symm)) hb); have HK := Aside0.mk (Kept.of_below hb P); have HB2 := Aside0.mk (below_step HB.out hb); clear HS HB; have HS := HS2; have HB := HB2; clear HS2 HB2 hbox hb hg; have hcx0 : w2.cell? ⟨gb, 0, none⟩ = some (.int .i64 x.f0) := (blk_cell BK.out 0).trans rfl; have hcx1 : w2.cell? ⟨gb, 1, none⟩ = some (.int .i64 x.f1) := (blk_cell BK.out 1).trans rfl; have hcx2 : w2.cell? ⟨gb, 2, none⟩ = some (.int .i64 x.f2) := (blk_cell BK.out 2).trans rfl; have hcx3 : w2.cell? ⟨gb, 3, none⟩ = some (.slice A x.f3.length c) := (blk_cell BK.out 3).trans rfl) | (go_at_call 31; refine (impl_InRange.calls x.f0 2 6 false _ hin).mono ?_; rintro e w' ⟨rfl, ⟨nd, rfl⟩⟩))
    clear hin
    (try clear hcx0 hcx1 hcx2 hcx3)
    (try clear hcw0 hcw1 hcw2 hcw3)
    go_loopg [1, 30] x.f3.length (fun gg v0 v6 w' => ∃ (a' b : List S29) (l : List S29), Aside0 (x.f3 = a' ++ b) ∧ b.length ≤ gg ∧ v6 = .int .i64 (a'.length : Int) ∧ Aside0 (b.foldlM (fun l y => impl_LeavesOf.g k y l) l = some r) ∧ Aside0 (Kd.S k29 29 w' w0.heap.size (fun j => (P j ∨ w.heap.size ≤ j) ∧ j ≠ gb) v0 l) ∧ Aside0 (w'.heap[gb]? = some (.cells #[.int .i64 x.f0, .int .i64 x.f1, .int .i64 x.f2, .slice A x.f3.length c] 29 (0, 0))) ∧ Aside0 (Kept w w' P) ∧ Aside0 (Below w0.heap.size w0 w'))
    case atStart => exact ⟨[], x.f3, _, ⟨rfl⟩, Nat.le_refl _, rfl, HR, ⟨(Kd.S_mono (Kd.S_drewN HS.out _) (fun j hj => ⟨.inl hj.1, hj.2⟩))⟩, ⟨(blk_drewN BK.out _)⟩, ⟨(Kept.drewN HK.out _)⟩, ⟨(pw_below_drewN HB.out _)⟩⟩
    case round =>
      clear HR
      (try clear HS)
      (try clear BK)
      (try clear HK)
      (try clear HB)
      obtain ⟨a', b, l, hl, hgg, rfl, HR, HS, BK, HK, HB⟩ := hrel
      cases b with
      | nil =>
        have hd : decide ((a'.length : Int) < (x.f3.length : Int)) = false := decide_eq_false (by rw [hl.out]; simp)
        have hd2 : ((a'.length : Int) < (x.f3.length : Int)) = False := eq_false (by rw [hl.out]; simp)
        have hd3 : (a'.length < x.f3.length) = False := eq_false (by rw [hl.out]; simp)
        have hr := HR.out
        obtain rfl := Option.some.inj hr
        clear hr
        go_wp2
        go_ret
        exact ⟨_, rfl, Kd.S_mono HS.out (fun j hj => hj.1), HK.out, HB.out⟩
      | cons y b =>
        have hlt : (a'.length : Int) < (x.f3.length : Int) := by rw [hl.out]; simp; omega
        have hd : decide ((a'.length : Int) < (x.f3.length : Int)) = true := decide_eq_true hlt
        have hxx : rd_T29 x.f3 (a'.length : Int) = y := by
          unfold rd_T29
          rw [Int.toNat_natCast, hl.out, List.getD_eq_getElem?_getD, List.getElem?_append_right (Nat.le_refl _), Nat.sub_self]
          rfl
        obtain ⟨ad2, A2, c2, e2, hx0, hx1, hx2, hx3, hl2, hi2⟩ := at_T29 HX.out (a'.length : Int) (by omega) hlt
        have HI2 := Aside0.mk (hxx ▸ hi2 : Kd.C k29 w0 A2 y.f3.length y.f3)
        have HL2 := Aside0.mk (hxx ▸ hl2 : y.f3.length ≤ c2)
        clear hi2 hl2
        rw [hxx] at hx0 hx1 hx2 hx3
        cases e2
        replace hx0 := (HB.out.cell (World.block_lt_of_cell? w0 _ hx0)).trans hx0
        replace hx1 := (HB.out.cell (World.block_lt_of_cell? w0 _ hx1)).trans hx1
        replace hx2 := (HB.out.cell (World.block_lt_of_cell? w0 _ hx2)).trans hx2
        replace hx3 := (HB.out.cell (World.block_lt_of_cell? w0 _ hx3)).trans hx3
        have hlt' := eq_true hlt
        simp only [Int.toNat_natCast] at hx0 hx1 hx2 hx3
        cases gk with
        | zero => exact absurd hgg (by simp)
        | succ g1 =>
        have hr := HR.out
        clear HR
        rw [List.foldlM_cons] at hr
        cases hy : impl_LeavesOf.g k y l with
        | none => rw [hy] at hr; cases hr
        | some l1 =>
        rw [hy] at hr
        have HY := Aside0.mk hy
        have HR : Aside0 (b.foldlM (fun l y => impl_LeavesOf.g k y l) l1 = some r) := ⟨hr⟩
        clear hy hr
        go_wp2_with (first | ((with_reducible refine gate_dst (N := 6) rfl ?_); refine box_event ?hg (N := 6) ?hd (cs := #[.int .i64 0, .int .i64 0, .int .i64 0, .slice none 0 0]) (t := 29) ?hr ?_; (case hd => rfl); (case hg => rfl); (case hr => first | (go_simp; done) | (go_simp; rfl)); intro ga hg w5 hbox hb; have BA := Aside0.mk hbox; have GA := Aside0.mk (And.intro (by rw [hg]; exact HK.out.1 : w.heap.size ≤ ga) (by rw [hg]; exact below_size HB.out : w0.heap.size ≤ ga)); have NE := Aside0.mk (by have := blk_lt BK.out; omega : gb ≠ ga); have HS5 := Aside0.mk (Kd.S_below (Kd.S_elderB HS.out ga (Nat.le_of_eq hg.symm)) hb); have BK5 := Aside0.mk (blk_below BK.out hb); have HK5 := Aside0.mk (HK.out.below hb); have HB5 := Aside0.mk (below_step HB.out hb); clear HS HB HK BK hbox hb hg; have hca0 : w5.cell? ⟨ga, 0, none⟩ = some (.int .i64 0) := (blk_cell BA.out 0).trans rfl; have hca1 : w5.cell? ⟨ga, 1, none⟩ = some (.int .i64 0) := (blk_cell BA.out 1).trans rfl; have hca2 : w5.cell? ⟨ga, 2, none⟩ = some (.int .i64 0) := (blk_cell BA.out 2).trans rfl; have hca3 : w5.cell? ⟨ga, 3, none⟩ = some (.slice none 0 0) := (blk_cell BA.out 3).trans rfl; have hfa0 := blk_frozen BA.out 0; have hfa1 := blk_frozen BA.out 1; have hfa2 := blk_frozen BA.out 2; have hfa3 := blk_frozen BA.out 3) | (go_at_call 26; have hb6 : Below w0.heap.size w0 ((((w5.setCell ⟨ga, 0, none⟩ (.int .i64 y.f0)).setCell ⟨ga, 1, none⟩ (.int .i64 y.f1)).setCell ⟨ga, 2, none⟩ (.int .i64 y.f2)).setCell ⟨ga, 3, none⟩ (.slice A2 y.f3.length c2)) := below_set (below_set (below_set (below_set HB5.out GA.out.2) GA.out.2) GA.out.2) GA.out.2; have hk6 : Kept w ((((w5.setCell ⟨ga, 0, none⟩ (.int .i64 y.f0)).setCell ⟨ga, 1, none⟩ (.int .i64 y.f1)).setCell ⟨ga, 2, none⟩ (.int .i64 y.f2)).setCell ⟨ga, 3, none⟩ (.slice A2 y.f3.length c2)) P := Kept.setCell (Kept.setCell (Kept.setCell (Kept.setCell HK5.out (.inr GA.out.1) _) (.inr GA.out.1) _) (.inr GA.out.1) _) (.inr GA.out.1) _; have hs6 := Kd.S_far (p := ⟨ga, 3, none⟩) (Kd.S_far (p := ⟨ga, 2, none⟩) (Kd.S_far (p := ⟨ga, 1, none⟩) (Kd.S_far (p := ⟨ga, 0, none⟩) HS5.out (fun _ hk => hk.2) (.int .i64 y.f0)) (fun _ hk => hk.2) (.int .i64 y.f1)) (fun _ hk => hk.2) (.int .i64 y.f2)) (fun _ hk => hk.2) (.slice A2 y.f3.length c2); have bk6 : ((((w5.setCell ⟨ga, 0, none⟩ (.int .i64 y.f0)).setCell ⟨ga, 1, none⟩ (.int .i64 y.f1)).setCell ⟨ga, 2, none⟩ (.int .i64 y.f2)).setCell ⟨ga, 3, none⟩ (.slice A2 y.f3.length c2)).heap[gb]? = some (.cells #[.int .i64 x.f0, .int .i64 x.f1, .int .i64 x.f2, .slice _ x.f3.length c] 29 (0, 0)) := blk_far (blk_far (blk_far (blk_far BK5.out NE.out _) NE.out _) NE.out _) NE.out _; refine (ih l _ y _ _ l1 (fun j => ((P j ∨ w.heap.size ≤ j) ∧ j ≠ gb) ∧ j ≠ ga) w0 ((((w5.setCell ⟨ga, 0, none⟩ (.int .i64 y.f0)).setCell ⟨ga, 1, none⟩ (.int .i64 y.f1)).setCell ⟨ga, 2, none⟩ (.int .i64 y.f2)).setCell ⟨ga, 3, none⟩ (.slice A2 y.f3.length c2)) hb6 hs6 HI2.out HL2.out HY.out).mono ?_; rintro e w7 ⟨v3, rfl, hs3, hk3, hb3⟩; have HS3 := Aside0.mk (Kd.S_mono hs3 (ok' := fun j => (P j ∨ w.heap.size ≤ j) ∧ j ≠ gb) (fun j hj => hj.elim (fun q => q.1) (fun q => ⟨.inr (Nat.le_trans hk6.1 q), fun e => by have := blk_lt bk6; omega⟩))); have BK3 := Aside0.mk (blk_kept bk6 hk3 (fun q => q.1.2 rfl)); have HK3 := Aside0.mk (hk6.then_ hk3 (fun j hj => hj.1.1)); have HB3 := Aside0.mk hb3; clear hs3 hk3 hb3 hb6 hk6 hs6 bk6))
        go_roundg g1
        case measure => omega
        case rel => exact ⟨a' ++ [y], b, l1, ⟨by rw [hl.out]; simp⟩, by simp at hgg; omega, by have := HX0.out; rw [List.length_append]; unfold wrap64; rw [hl.out] at this; simp at this ⊢; omega, HR, HS3, BK3, HK3, HB3⟩
set_option maxHeartbeats 8000000 in
set_option maxRecDepth 100000 in
theorem impl_LeavesOf.calls (k : Nat) (a0_0 : Int) (a0_1 : Int) (a0_2 : Int) (A0_3 : Option Addr) (c0_3 : Nat) (l0_3 : List S29) (r : List S29) (w : World) (hr0_3 : Kd.C k29 w A0_3 l0_3.length l0_3) (hc0_3 : l0_3.length ≤ c0_3) (h : impl_LeavesOf.f k a0_0 a0_1 a0_2 l0_3 = some r) :
    Calls Try.prog 8 #[.agg #[.int .i64 a0_0, .int .i64 a0_1, .int .i64 a0_2, .slice A0_3 l0_3.length c0_3]] w fun e w' => ∃ v0_ : Value, e = .returned (v0_) ∧ Kd.S k29 29 w' w.heap.size (fun _ => True) v0_ r ∧ Below w.heap.size w w' := by
  have HX := Aside0.mk hr0_3
  have HC := Aside0.mk hc0_3
  have HH := Aside0.mk h
  clear hr0_3 hc0_3 h
  have HB := Aside0.mk (Below.refl w.heap.size w)
  go_enter Try.func8, Try.ntmps8
  go_wp2_with (first | ((with_reducible refine gate_dst (N := 1) rfl ?_); refine box_event ?hg (N := 1) ?hd (cs := #[.int .i64 a0_0, .int .i64 a0_1, .int .i64 a0_2, .slice A0_3 l0_3.length c0_3]) (t := 29) ?hr ?_; (case hd => rfl); (case hg => rfl); (case hr => first | (go_simp; done) | (go_simp; rfl)); intro gb hg w2 hbox hb; have BK := Aside0.mk hbox; have HB2 := Aside0.mk (below_step HB.out hb); clear HB hbox hb hg; have hcx0 : w2.cell? ⟨gb, 0, none⟩ = some (.int .i64 a0_0) := (blk_cell BK.out 0).trans rfl; have hcx1 : w2.cell? ⟨gb, 1, none⟩ = some (.int .i64 a0_1) := (blk_cell BK.out 1).trans rfl; have hcx2 : w2.cell? ⟨gb, 2, none⟩ = some (.int .i64 a0_2) := (blk_cell BK.out 2).trans rfl; have hcx3 : w2.cell? ⟨gb, 3, none⟩ = some (.slice A0_3 l0_3.length c0_3) := (blk_cell BK.out 3).trans rfl) | ((with_reducible refine gate_dst (N := 4) rfl ?_); refine Kd.S_lit k29 (w0 := w) w.heap.size 29 ?hg (N := 4) ?hd (xs := ([] : List S29)) (inner := []) (ok := fun _ => True) (okp := fun _ => True) ?hr ?hp (fun _ hk => hk) trivial HB2.out (below_size HB2.out) (by simp) ?_; (case hd => rfl); (case hg => rfl); (case hr => first | (go_simp; done) | (go_simp; rfl)); (case hp => exact (Reps.none _ _)); intro v123 w3 hs3 hb3 hg3 hn3; have HS3 := Aside0.mk hs3; have HB3 := Aside0.mk hb3; have BK3 := Aside0.mk (blk_grown BK.out hg3 (by simp)); clear hs3 hb3 hg3 hn3; have hcz0 : w3.cell? ⟨gb, 0, none⟩ = some (.int .i64 a0_0) := (blk_cell BK3.out 0).trans rfl; have hcz1 : w3.cell? ⟨gb, 1, none⟩ = some (.int .i64 a0_1) := (blk_cell BK3.out 1).trans rfl; have hcz2 : w3.cell? ⟨gb, 2, none⟩ = some (.int .i64 a0_2) := (blk_cell BK3.out 2).trans rfl; have hcz3 : w3.cell? ⟨gb, 3, none⟩ = some (.slice A0_3 l0_3.length c0_3) := (blk_cell BK3.out 3).trans rfl) | (go_at_call 26; refine (impl_LeavesOf.run k [] v123 ⟨a0_0, a0_1, a0_2, l0_3⟩ A0_3 c0_3 r (fun _ => True) w w3 HB3.out HS3.out HX.out HC.out HH.out).mono ?_; rintro e w4 ⟨v4, rfl, hs4, hk4, hb4⟩; have HS4 := Aside0.mk (Kd.S_mono hs4 (ok' := fun _ => True) (fun _ _ => trivial)); have HB4 := Aside0.mk hb4; clear hs4 hk4 hb4))
  go_ret
  exact ⟨_, rfl, HS4.out, HB4.out⟩


end Go.Proofs.Ythjhenhmjmpkaaa.XFnExactLeavesOf
