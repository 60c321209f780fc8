/- Written by this session's own program (wip/xprint, which runs over the kit's print): what the functions that the law reaches come to, each proved; and the law's row. Conditions: none. -/
import Derived.Test.YtnjobmbjeknlbaaDoorXFnExactFormatCondx0
import Derived.Test.YtnjobmbjeknlbaaDoorXFnExactFormatCondx4
import Derived.Test.YtnjobmbjeknlbaaDoorXFnExactFormatCondx5
namespace Go.Proofs.YtnjobmbjeknlbaaDoor.XFnExactFormatCond
open Go.RowKit Go.Proofs.YtnjobmbjeknlbaaDoorW.PrintWords Go.Proofs.YtnjobmbjeknlbaaDoorW.PrintLast Go.Proofs.YtnjobmbjeknlbaaDoorW.PrintMore
attribute [local go_sem] max2_int min2_int max_two min_two max_three min_three max_four min_four   -- for this text's walks alone
set_option linter.unusedVariables false
set_option linter.unusedSimpArgs false

/-! ### impl_formatCond: function 19 -/
mutual
def impl_formatCond.j0 : Nat → ByteArray → Bool → Int → Int → Int → List (S31) → Option (ByteArray)
  | 0, _, _, _, _, _, _ => none
  | k + 1, x3, x20, x193000, x193001, x193002, x193003 => if x20 = true then (if 0 < (x193003.length : Int) then ((impl_formatCond.f k ((rd_T31 x193003 0).f0) ((rd_T31 x193003 0).f1) ((rd_T31 x193003 0).f2) ((rd_T31 x193003 0).f3)).bind fun t197 => (if 1 + t197.size ≤ 9223372036854775807 then (if ((⟨#[40]⟩ : ByteArray) ++ t197).size + 1 ≤ 9223372036854775807 then (if (((⟨#[40]⟩ : ByteArray) ++ t197) ++ (⟨#[32]⟩ : ByteArray)).size + x3.size ≤ 9223372036854775807 then (if ((((⟨#[40]⟩ : ByteArray) ++ t197) ++ (⟨#[32]⟩ : ByteArray)) ++ x3).size + 1 ≤ 9223372036854775807 then (if 1 < (x193003.length : Int) then ((impl_formatCond.f k ((rd_T31 x193003 1).f0) ((rd_T31 x193003 1).f1) ((rd_T31 x193003 1).f2) ((rd_T31 x193003 1).f3)).bind fun t199 => (if (((((⟨#[40]⟩ : ByteArray) ++ t197) ++ (⟨#[32]⟩ : ByteArray)) ++ x3) ++ (⟨#[32]⟩ : ByteArray)).size + t199.size ≤ 9223372036854775807 then (if ((((((⟨#[40]⟩ : ByteArray) ++ t197) ++ (⟨#[32]⟩ : ByteArray)) ++ x3) ++ (⟨#[32]⟩ : ByteArray)) ++ t199).size + 1 ≤ 9223372036854775807 then (some (((((((⟨#[40]⟩ : ByteArray) ++ t197) ++ (⟨#[32]⟩ : ByteArray)) ++ x3) ++ (⟨#[32]⟩ : ByteArray)) ++ t199) ++ (⟨#[41]⟩ : ByteArray))) else (none)) else (none))) else (none)) else (none)) else (none)) else (none)) else (none))) else (none)) else (if x193000 = 1 then (impl_formatCond.j1 k x3 false x193000 x193001 x193002 x193003) else (impl_formatCond.j1 k x3 (x193000 != 3) x193000 x193001 x193002 x193003))
def impl_formatCond.j1 : Nat → ByteArray → Bool → Int → Int → Int → List (S31) → Option (ByteArray)
  | 0, _, _, _, _, _, _ => none
  | k + 1, x3, x47, x193000, x193001, x193002, x193003 => if x47 = true then ((impl_FormatInt.f x193001).bind fun t200 => (if 1 + t200.size ≤ 9223372036854775807 then (if x3.size + ((⟨#[32]⟩ : ByteArray) ++ t200).size ≤ 9223372036854775807 then (impl_formatCond.j2 k (x3 ++ ((⟨#[32]⟩ : ByteArray) ++ t200)) x193000 x193001 x193002 x193003) else (none)) else (none))) else (impl_formatCond.j2 k x3 x193000 x193001 x193002 x193003)
def impl_formatCond.j2 : Nat → ByteArray → Int → Int → Int → List (S31) → Option (ByteArray)
  | 0, _, _, _, _, _ => none
  | k + 1, x3, x193000, x193001, x193002, x193003 => (impl_InRange.f x193000 2 5).bind fun t201 => (if t201 = true then ((impl_FormatInt.f x193002).bind fun t202 => (if 1 + t202.size ≤ 9223372036854775807 then (if x3.size + ((⟨#[32]⟩ : ByteArray) ++ t202).size ≤ 9223372036854775807 then (some (x3 ++ ((⟨#[32]⟩ : ByteArray) ++ t202))) else (none)) else (none))) else (some x3))
def impl_formatCond.f : Nat → Int → Int → Int → List (S31) → Option (ByteArray)
  | 0, _, _, _, _ => none
  | k + 1, a0_0, a0_1, a0_2, l0_3 => (impl_CondName.f a0_0).bind fun t193 => (if a0_0 = 7 then (if t193.size + 1 ≤ 9223372036854775807 then (if 0 < (l0_3.length : Int) then ((impl_formatCond.f k ((rd_T31 l0_3 0).f0) ((rd_T31 l0_3 0).f1) ((rd_T31 l0_3 0).f2) ((rd_T31 l0_3 0).f3)).bind fun t195 => (if (t193 ++ (⟨#[32]⟩ : ByteArray)).size + t195.size ≤ 9223372036854775807 then (some ((t193 ++ (⟨#[32]⟩ : ByteArray)) ++ t195)) else (none))) else (none)) else (none)) else (if a0_0 = 8 then (impl_formatCond.j0 k t193 (a0_0 == 8) a0_0 a0_1 a0_2 l0_3) else (impl_formatCond.j0 k t193 (a0_0 == 9) a0_0 a0_1 a0_2 l0_3)))
end
def impl_formatCond.T7 : Bool × List (List Nat × List Nat) := (true, [([], []), ([0], [0]), ([1], [1]), ([2], [2]), ([3], [3]), ([4], [4]), ([5], [5]), ([], []), ([6, 7], [6, 7]), ([8], [8]), ([], []), ([10], [10]), ([11], [11]), ([12], [12]), ([13, 4], [13]), ([9, 14], [9, 14]), ([15], [15]), ([16, 14, 0, 1, 2, 3, 4, 5, 6, 7, 8, 9, 10, 11, 12, 13, 14, 15, 16], [16])])
def impl_formatCond.B7 : List Nat := [0, 1, 3, 7, 15, 31, 63, 0, 255, 511, 0, 1024, 3072, 7168, 15391, 32767, 65535, 131071]
theorem impl_formatCond.tab7 : rtab .any (opsOf Tryd.f19 7) = impl_formatCond.T7 := by kernel_rfl
theorem impl_formatCond.bits7 : waitsOk impl_formatCond.T7.2 impl_formatCond.B7 = true := by kernel_rfl
set_option maxHeartbeats 8000000 in
set_option maxRecDepth 100000 in
theorem impl_formatCond.calls (k : Nat) : ∀ (a0_0 : Int) (a0_1 : Int) (a0_2 : Int) (A0_3 : Option Addr) (c0_3 : Nat) (l0_3 : List (S31)) (r : ByteArray) (w : World) (hr0_3 : Kd.C k31 w A0_3 l0_3.length l0_3) (hc0_3 : l0_3.length ≤ c0_3) (h : impl_formatCond.f k a0_0 a0_1 a0_2 l0_3 = some r) (hT : Tabs w),
    Calls Tryd.prog 19 #[.agg #[.int .i64 a0_0, .int .i64 a0_1, .int .i64 a0_2, .slice A0_3 l0_3.length c0_3]] w fun e w' => e = .returned (.string r) ∧ Below w.heap.size w w' := by
  induction k using Nat.strongRecOn with
  | _ k ih =>
  intro a0_0 a0_1 a0_2 A0_3 c0_3 l0_3 r w hr0_3 hc0_3 h hT
  cases k with
  | zero => exact absurd h (by simp [impl_formatCond.f])
  | succ k =>
  simp only [impl_formatCond.f] at h
  have hu31 := Tryd.underlying31
  have HR0_3 := Aside0.mk hr0_3
  have HC0_3 := Aside0.mk hc0_3
  clear hr0_3 hc0_3
  have HB := Aside0.mk (Below.refl w.heap.size w)
  have HTab := Aside0.mk hT
  clear hT
  have H : ((impl_CondName.f a0_0).bind fun t193 => (if a0_0 = 7 then (if t193.size + 1 ≤ 9223372036854775807 then (if 0 < (l0_3.length : Int) then ((impl_formatCond.f k ((rd_T31 l0_3 0).f0) ((rd_T31 l0_3 0).f1) ((rd_T31 l0_3 0).f2) ((rd_T31 l0_3 0).f3)).bind fun t195 => (if (t193 ++ (⟨#[32]⟩ : ByteArray)).size + t195.size ≤ 9223372036854775807 then (some ((t193 ++ (⟨#[32]⟩ : ByteArray)) ++ t195)) else (none))) else (none)) else (none)) else (if a0_0 = 8 then (impl_formatCond.j0 k t193 (a0_0 == 8) a0_0 a0_1 a0_2 l0_3) else (impl_formatCond.j0 k t193 (a0_0 == 9) a0_0 a0_1 a0_2 l0_3)))) = some r := h
  clear h
  replace H := Option.bind_eq_some_iff.mp H
  obtain ⟨t193, A20, H⟩ := H
  replace H : (if a0_0 = 7 then (if t193.size + 1 ≤ 9223372036854775807 then (if 0 < (l0_3.length : Int) then ((impl_formatCond.f k ((rd_T31 l0_3 0).f0) ((rd_T31 l0_3 0).f1) ((rd_T31 l0_3 0).f2) ((rd_T31 l0_3 0).f3)).bind fun t195 => (if (t193 ++ (⟨#[32]⟩ : ByteArray)).size + t195.size ≤ 9223372036854775807 then (some ((t193 ++ (⟨#[32]⟩ : ByteArray)) ++ t195)) else (none))) else (none)) else (none)) else (if a0_0 = 8 then (impl_formatCond.j0 k t193 (a0_0 == 8) a0_0 a0_1 a0_2 l0_3) else (impl_formatCond.j0 k t193 (a0_0 == 9) a0_0 a0_1 a0_2 l0_3))) = some r := H
  have A2 := Aside0.mk A20
  clear A20
  by_cases c3 : a0_0 = 7
  · rw [if_pos c3] at H
    have c3b0 : (a0_0 == 7) = true := beq_iff_eq.mpr c3
    have c3b1 : (a0_0 != 7) = false := bne_eq_false_iff_eq.mpr c3
    clear c3
    by_cases c4 : t193.size + 1 ≤ 9223372036854775807
    · rw [if_pos c4] at H
      have c4b0 := eq_true c4
      have c4b1 : decide (t193.size + 1 ≤ 9223372036854775807) = true := decide_eq_true c4
      try have c4b2 : (9223372036854775807 < t193.size + 1) = False := eq_false (Nat.not_lt.2 c4)
      by_cases c5 : 0 < (l0_3.length : Int)
      · rw [if_pos c5] at H
        have c5b0 : decide (0 < (l0_3.length : Int)) = true := decide_eq_true c5
        have c5b1 : decide (0 < l0_3.length) = true := decide_eq_true (by omega)
        clear c5
        replace H := Option.bind_eq_some_iff.mp H
        obtain ⟨t195, A60, H⟩ := H
        replace H : (if (t193 ++ (⟨#[32]⟩ : ByteArray)).size + t195.size ≤ 9223372036854775807 then (some ((t193 ++ (⟨#[32]⟩ : ByteArray)) ++ t195)) else (none)) = some r := H
        have A6 := Aside0.mk A60
        clear A60
        by_cases c7 : (t193 ++ (⟨#[32]⟩ : ByteArray)).size + t195.size ≤ 9223372036854775807
        · rw [if_pos c7] at H
          have c7b0 := eq_true c7
          have c7b1 : decide ((t193 ++ (⟨#[32]⟩ : ByteArray)).size + t195.size ≤ 9223372036854775807) = true := decide_eq_true c7
          try have c7b2 : (9223372036854775807 < (t193 ++ (⟨#[32]⟩ : ByteArray)).size + t195.size) = False := eq_false (Nat.not_lt.2 c7)
          try have c7b3 : (9223372036854775807 < t193.size + 1 + t195.size) = False := eq_false (Nat.not_lt.2 (show t193.size + 1 + t195.size ≤ 9223372036854775807 from by have hh := c7; simp only [ByteArray.size_append] at hh; exact hh))
          obtain rfl := Option.some.inj H
          go_enter Tryd.func19, Tryd.ntmps19
          go_wp2_with (first | ((with_reducible refine gate_dst (N := 1) rfl ?_); refine box_event ?hg (N := 1) ?hd (cs := #[.int .i64 a0_0, .int .i64 a0_1, .int .i64 a0_2, .slice A0_3 l0_3.length c0_3]) (t := 31) ?hr ?_; (case hd => rfl); (case hg => rfl); (case hr => first | (go_simp; done) | (go_simp; rfl)); intro gb192 hg w8 hbox hb; have n0_ := Aside0.mk (below_step (by repeat (first | (with_reducible first | exact HB.out | apply below_alloc | apply pw_below_drewN | apply below_drew1) | exact HB.out)) hb); have n1_ := Aside0.mk (hbox); have n2_ := Aside0.mk ((by rw [hg]; exact (below_size (by repeat (first | (with_reducible first | exact HB.out | apply below_alloc | apply pw_below_drewN | apply below_drew1) | exact HB.out))) : w.heap.size ≤ gb192)); have n3_ := Aside0.mk ((by rw [hg]; exact (below_size (by repeat (first | (with_reducible first | exact HB.out | apply below_alloc | apply pw_below_drewN | apply below_drew1) | exact HB.out))) : w.heap.size ≤ gb192)); clear HB; have HB := n0_; have BK192 := n1_; have GW192 := n2_; have GE192 := n3_; clear n0_ n1_ n2_ n3_; clear hb hbox hg; have hcz9_0 : w8.cell? ⟨gb192, 0, none⟩ = some (.int .i64 a0_0) := (blk_cell BK192.out 0).trans rfl; have hcz9_1 : w8.cell? ⟨gb192, 1, none⟩ = some (.int .i64 a0_1) := (blk_cell BK192.out 1).trans rfl; have hcz9_2 : w8.cell? ⟨gb192, 2, none⟩ = some (.int .i64 a0_2) := (blk_cell BK192.out 2).trans rfl; have hcz9_3 : w8.cell? ⟨gb192, 3, none⟩ = some (.slice A0_3 l0_3.length c0_3) := (blk_cell BK192.out 3).trans rfl; have hfz9_0 := blk_frozen BK192.out 0; have hfz9_1 := blk_frozen BK192.out 1; have hfz9_2 := blk_frozen BK192.out 2; have hfz9_3 := blk_frozen BK192.out 3; obtain ⟨hlo, hhi, hgl⟩ := (HTab.out.below HB.out).at A2.out; have hlo1 := eq_true hlo; have hhi1 := eq_true hhi; have hlo2 := decide_eq_true hlo; have hhi2 := decide_eq_true hhi; have hhi3 : (Int.toNat _ < 10) = True := eq_true ((Int.toNat_lt hlo).2 hhi); have hcz11_0 : w8.cell? ⟨gb192, 0, none⟩ = some (.int .i64 a0_0) := (blk_cell BK192.out 0).trans rfl; have hcz11_1 : w8.cell? ⟨gb192, 1, none⟩ = some (.int .i64 a0_1) := (blk_cell BK192.out 1).trans rfl; have hcz11_2 : w8.cell? ⟨gb192, 2, none⟩ = some (.int .i64 a0_2) := (blk_cell BK192.out 2).trans rfl; have hcz11_3 : w8.cell? ⟨gb192, 3, none⟩ = some (.slice A0_3 l0_3.length c0_3) := (blk_cell BK192.out 3).trans rfl; have hfz11_0 := blk_frozen BK192.out 0; have hfz11_1 := blk_frozen BK192.out 1; have hfz11_2 := blk_frozen BK192.out 2; have hfz11_3 := blk_frozen BK192.out 3; have p194 : 0 ≤ (0 : Int) := (by omega); have q194 : 0 < (l0_3.length : Int) := of_decide_eq_true (by first | (with_reducible assumption) | assumption); obtain ⟨ad194, A194_3, c194_3, e194, hx194_0, hx194_1, hx194_2, hx194_3, hl194_3, hi194_3⟩ := at_T31 HR0_3.out 0 p194 q194; cases e194; have qi194 : (0 < l0_3.length) = True := eq_true (by omega); (try rw [show ((0 : Int)).toNat = 0 from rfl] at hx194_0); (try rw [show 0 * 4 = 0 from rfl] at hx194_0); (try rw [Addr.add_zero'] at hx194_0); (try rw [show ((0 : Int)).toNat = 0 from rfl] at hx194_1); (try rw [show 0 * 4 = 0 from rfl] at hx194_1); (try rw [Addr.add_zero'] at hx194_1); (try rw [show ((0 : Int)).toNat = 0 from rfl] at hx194_2); (try rw [show 0 * 4 = 0 from rfl] at hx194_2); (try rw [Addr.add_zero'] at hx194_2); (try rw [show ((0 : Int)).toNat = 0 from rfl] at hx194_3); (try rw [show 0 * 4 = 0 from rfl] at hx194_3); (try rw [Addr.add_zero'] at hx194_3); replace hx194_0 := (HB.out.cell (World.block_lt_of_cell? w _ hx194_0)).trans hx194_0; replace hx194_1 := (HB.out.cell (World.block_lt_of_cell? w _ hx194_1)).trans hx194_1; replace hx194_2 := (HB.out.cell (World.block_lt_of_cell? w _ hx194_2)).trans hx194_2; replace hx194_3 := (HB.out.cell (World.block_lt_of_cell? w _ hx194_3)).trans hx194_3; have HR194_3 := Aside0.mk hi194_3; have HC194_3 := Aside0.mk hl194_3; clear hi194_3 hl194_3; replace p194 := eq_true p194; replace q194 := eq_true q194) | ((with_reducible refine gate_callee (f := 19) rfl ?_); refine goesL_ (some 18) rfl rfl Tryd.func19 (by kernel_rfl) rfl #[.agg #[.int .i64 ((rd_T31 l0_3 0).f0), .int .i64 ((rd_T31 l0_3 0).f1), .int .i64 ((rd_T31 l0_3 0).f2), .slice A194_3 ((rd_T31 l0_3 0).f3).length c194_3]] rfl (by (try simp only [List.map_toArray, List.map_cons, List.map_nil]); first | done | rfl | (simp only [List.length_drop, List.length_take]; rfl)) ?_; (with_reducible refine (ih k (by omega) ((rd_T31 l0_3 0).f0) ((rd_T31 l0_3 0).f1) ((rd_T31 l0_3 0).f2) _ _ ((rd_T31 l0_3 0).f3) t195 _ ?side1 ?side2 A6.out (HTab.out.below (by repeat (first | (with_reducible first | exact HB.out | apply below_alloc | apply pw_below_drewN | apply below_drew1 | refine below_set ?_ GE192.out) | exact HB.out)))).mono ?_); (case side1 => repeat (first | exact (Kd.C_below HR194_3.out HB.out) | (with_reducible refine Kd.C_alloc ?_ _) | (with_reducible refine Kd.C_drewN ?_ _) | (with_reducible refine Kd.C_drew ?_))); (case side2 => exact HC194_3.out); rintro e w12 ⟨rfl, hb⟩; refine ⟨_, rfl, ?_⟩; have n0_ := Aside0.mk (blk_below (g := gb192) (o := .cells #[.int .i64 a0_0, .int .i64 a0_1, .int .i64 a0_2, .slice (some ad194) l0_3.length c0_3] 31 (0, 0)) (by (with_reducible repeat (first | refine blk_drewN ?_ _ | refine blk_drew ?_ | refine blk_alloc ?_ _)); exact BK192.out) hb); have n1_ := Aside0.mk (below_step (by repeat (first | (with_reducible first | exact HB.out | apply below_alloc | apply pw_below_drewN | apply below_drew1 | refine below_set ?_ GE192.out) | exact HB.out)) hb); clear BK192; clear HB; have BK192 := n0_; have HB := n1_; clear n0_ n1_; (try clear hb); (try clear hb2); (try clear hk); (try clear hi)))
          go_ret
          exact ⟨by first | rfl | (simp [errW_none, errW_some] <;> rfl) | (simp [*, errW_none, errW_some] <;> rfl), by repeat (first | (with_reducible first | exact HB.out | apply below_alloc | apply pw_below_drewN | apply below_drew1 | refine below_set ?_ GE192.out) | exact HB.out)⟩
        · rw [if_neg c7] at H
          exact absurd H (by simp)
      · rw [if_neg c5] at H
        exact absurd H (by simp)
    · rw [if_neg c4] at H
      exact absurd H (by simp)
  · rw [if_neg c3] at H
    have c3b0 : (a0_0 == 7) = false := beq_eq_false_iff_ne.mpr c3
    have c3b1 : (a0_0 != 7) = true := bne_iff_ne.mpr c3
    have HC13 := Aside0.mk H
    clear H
    go_enter Tryd.func19, Tryd.ntmps19
    go_upto_if 20 with (first | ((with_reducible refine gate_dst (N := 1) rfl ?_); refine box_event ?hg (N := 1) ?hd (cs := #[.int .i64 a0_0, .int .i64 a0_1, .int .i64 a0_2, .slice A0_3 l0_3.length c0_3]) (t := 31) ?hr ?_; (case hd => rfl); (case hg => rfl); (case hr => first | (go_simp; done) | (go_simp; rfl)); intro gb192 hg w14 hbox hb; have n0_ := Aside0.mk (below_step (by repeat (first | (with_reducible first | exact HB.out | apply below_alloc | apply pw_below_drewN | apply below_drew1) | exact HB.out)) hb); have n1_ := Aside0.mk (hbox); have n2_ := Aside0.mk ((by rw [hg]; exact (below_size (by repeat (first | (with_reducible first | exact HB.out | apply below_alloc | apply pw_below_drewN | apply below_drew1) | exact HB.out))) : w.heap.size ≤ gb192)); have n3_ := Aside0.mk ((by rw [hg]; exact (below_size (by repeat (first | (with_reducible first | exact HB.out | apply below_alloc | apply pw_below_drewN | apply below_drew1) | exact HB.out))) : w.heap.size ≤ gb192)); clear HB; have HB := n0_; have BK192 := n1_; have GW192 := n2_; have GE192 := n3_; clear n0_ n1_ n2_ n3_; clear hb hbox hg; have hcz15_0 : w14.cell? ⟨gb192, 0, none⟩ = some (.int .i64 a0_0) := (blk_cell BK192.out 0).trans rfl; have hcz15_1 : w14.cell? ⟨gb192, 1, none⟩ = some (.int .i64 a0_1) := (blk_cell BK192.out 1).trans rfl; have hcz15_2 : w14.cell? ⟨gb192, 2, none⟩ = some (.int .i64 a0_2) := (blk_cell BK192.out 2).trans rfl; have hcz15_3 : w14.cell? ⟨gb192, 3, none⟩ = some (.slice A0_3 l0_3.length c0_3) := (blk_cell BK192.out 3).trans rfl; have hfz15_0 := blk_frozen BK192.out 0; have hfz15_1 := blk_frozen BK192.out 1; have hfz15_2 := blk_frozen BK192.out 2; have hfz15_3 := blk_frozen BK192.out 3; obtain ⟨hlo, hhi, hgl⟩ := (HTab.out.below HB.out).at A2.out; have hlo1 := eq_true hlo; have hhi1 := eq_true hhi; have hlo2 := decide_eq_true hlo; have hhi2 := decide_eq_true hhi; have hhi3 : (Int.toNat _ < 10) = True := eq_true ((Int.toNat_lt hlo).2 hhi); have hcz17_0 : w14.cell? ⟨gb192, 0, none⟩ = some (.int .i64 a0_0) := (blk_cell BK192.out 0).trans rfl; have hcz17_1 : w14.cell? ⟨gb192, 1, none⟩ = some (.int .i64 a0_1) := (blk_cell BK192.out 1).trans rfl; have hcz17_2 : w14.cell? ⟨gb192, 2, none⟩ = some (.int .i64 a0_2) := (blk_cell BK192.out 2).trans rfl; have hcz17_3 : w14.cell? ⟨gb192, 3, none⟩ = some (.slice A0_3 l0_3.length c0_3) := (blk_cell BK192.out 3).trans rfl; have hfz17_0 := blk_frozen BK192.out 0; have hfz17_1 := blk_frozen BK192.out 1; have hfz17_2 := blk_frozen BK192.out 2; have hfz17_3 := blk_frozen BK192.out 3))
    (try simp only [Act.put, List.setIfInBounds_toArray, List.set_cons_zero, List.set_cons_succ])
    go_cut [20] (fun v20 wc => ∃ (kq : Nat) (x20_12 : Bool), v20 = .bool x20_12 ∧ Aside0 (impl_formatCond.j0 kq t193 x20_12 a0_0 a0_1 a0_2 l0_3 = some r) ∧ Aside0 (kq ≤ k) ∧ Aside0 (wc.heap[gb192]? = some (.cells #[.int .i64 a0_0, .int .i64 a0_1, .int .i64 a0_2, (.slice A0_3 l0_3.length c0_3)] 31 (0, 0))) ∧ Aside0 (Below w.heap.size w wc))
    case first =>
      have H := HC13.out
      clear HC13
      by_cases c18 : a0_0 = 8
      · rw [if_pos c18] at H
        have c18b0 : (a0_0 == 8) = true := beq_iff_eq.mpr c18
        have c18b1 : (a0_0 != 8) = false := bne_eq_false_iff_eq.mpr c18
        clear c18
        (first | rw [c18b0] | (simp only [i64_w, i32_w]; rw [c18b0]) | skip)
        have H' := Aside0.mk H
        clear H
        go_wp2
        go_meet
        case rel => exact ⟨_, ((a0_0 == 8)), (by first | rfl | (simp; done) | (simp [*]; done)), H', ⟨by first | omega | exact Nat.le_refl _⟩, ⟨by (with_reducible repeat (first | refine blk_drewN ?_ _ | refine blk_drew ?_ | refine blk_alloc ?_ _)); exact BK192.out⟩, ⟨by repeat (first | (with_reducible first | exact HB.out | apply below_alloc | apply pw_below_drewN | apply below_drew1 | refine below_set ?_ GE192.out) | exact HB.out)⟩⟩
      · rw [if_neg c18] at H
        have c18b0 : (a0_0 == 8) = false := beq_eq_false_iff_ne.mpr c18
        have c18b1 : (a0_0 != 8) = true := bne_iff_ne.mpr c18
        (first | rw [c18b0] | (simp only [i64_w, i32_w]; rw [c18b0]) | skip)
        have H' := Aside0.mk H
        clear H
        go_wp2
        go_meet
        case rel => exact ⟨_, ((a0_0 == 9)), (by first | rfl | (simp; done) | (simp [*]; done)), H', ⟨by first | omega | exact Nat.le_refl _⟩, ⟨by (with_reducible repeat (first | refine blk_drewN ?_ _ | refine blk_drew ?_ | refine blk_alloc ?_ _)); exact BK192.out⟩, ⟨by repeat (first | (with_reducible first | exact HB.out | apply below_alloc | apply pw_below_drewN | apply below_drew1 | refine below_set ?_ GE192.out) | exact HB.out)⟩⟩
    case rest =>
      clear HC13
      try clear c1
      try clear p1
      try clear q1
      try clear hx1
      try clear qi1
      try clear p2
      try clear c3
      try clear c3b0
      try clear c3b1
      try clear c4
      try clear c4b0
      try clear c4b1
      try clear c4b2
      try clear c5
      try clear c5b0
      try clear c5b1
      try clear c6
      try clear c7
      try clear c7b0
      try clear c7b1
      try clear c7b2
      try clear c18
      try clear c18b0
      try clear c18b1
      try clear hcz11_0
      try clear hcz11_1
      try clear hcz11_2
      try clear hcz11_3
      try clear hcz15_0
      try clear hcz15_1
      try clear hcz15_2
      try clear hcz15_3
      try clear hcz17_0
      try clear hcz17_1
      try clear hcz17_2
      try clear hcz17_3
      try clear hcz9_0
      try clear hcz9_1
      try clear hcz9_2
      try clear hcz9_3
      try clear hfz11_0
      try clear hfz11_1
      try clear hfz11_2
      try clear hfz11_3
      try clear hfz15_0
      try clear hfz15_1
      try clear hfz15_2
      try clear hfz15_3
      try clear hfz17_0
      try clear hfz17_1
      try clear hfz17_2
      try clear hfz17_3
      try clear hfz9_0
      try clear hfz9_1
      try clear hfz9_2
      try clear hfz9_3
      try clear hx194_0
      try clear hx194_1
      try clear hx194_2
      try clear hx194_3
      try clear p194
      try clear q194
      obtain ⟨kq, x20_12, rfl, HA, HJ12, BK192, HB⟩ := hcut
      cases kq with
      | zero => exact absurd HA.out (by simp [impl_formatCond.j0])
      | succ kj12 =>
        have H := HA.out
        clear HA
        simp only [impl_formatCond.j0] at H
        by_cases c19 : x20_12 = true
        · subst c19
          have H1 : (if 0 < (l0_3.length : Int) then ((impl_formatCond.f kj12 ((rd_T31 l0_3 0).f0) ((rd_T31 l0_3 0).f1) ((rd_T31 l0_3 0).f2) ((rd_T31 l0_3 0).f3)).bind fun t197 => (if 1 + t197.size ≤ 9223372036854775807 then (if ((⟨#[40]⟩ : ByteArray) ++ t197).size + 1 ≤ 9223372036854775807 then (if (((⟨#[40]⟩ : ByteArray) ++ t197) ++ (⟨#[32]⟩ : ByteArray)).size + t193.size ≤ 9223372036854775807 then (if ((((⟨#[40]⟩ : ByteArray) ++ t197) ++ (⟨#[32]⟩ : ByteArray)) ++ t193).size + 1 ≤ 9223372036854775807 then (if 1 < (l0_3.length : Int) then ((impl_formatCond.f kj12 ((rd_T31 l0_3 1).f0) ((rd_T31 l0_3 1).f1) ((rd_T31 l0_3 1).f2) ((rd_T31 l0_3 1).f3)).bind fun t199 => (if (((((⟨#[40]⟩ : ByteArray) ++ t197) ++ (⟨#[32]⟩ : ByteArray)) ++ t193) ++ (⟨#[32]⟩ : ByteArray)).size + t199.size ≤ 9223372036854775807 then (if ((((((⟨#[40]⟩ : ByteArray) ++ t197) ++ (⟨#[32]⟩ : ByteArray)) ++ t193) ++ (⟨#[32]⟩ : ByteArray)) ++ t199).size + 1 ≤ 9223372036854775807 then (some (((((((⟨#[40]⟩ : ByteArray) ++ t197) ++ (⟨#[32]⟩ : ByteArray)) ++ t193) ++ (⟨#[32]⟩ : ByteArray)) ++ t199) ++ (⟨#[41]⟩ : ByteArray))) else (none)) else (none))) else (none)) else (none)) else (none)) else (none)) else (none))) else (none)) = some r := by rw [if_pos rfl] at H; exact H
          clear H
          have H := H1
          clear H1
          by_cases c20 : 0 < (l0_3.length : Int)
          · rw [if_pos c20] at H
            have c20b0 : decide (0 < (l0_3.length : Int)) = true := decide_eq_true c20
            have c20b1 : decide (0 < l0_3.length) = true := decide_eq_true (by omega)
            clear c20
            replace H := Option.bind_eq_some_iff.mp H
            obtain ⟨t197, A210, H⟩ := H
            replace H : (if 1 + t197.size ≤ 9223372036854775807 then (if ((⟨#[40]⟩ : ByteArray) ++ t197).size + 1 ≤ 9223372036854775807 then (if (((⟨#[40]⟩ : ByteArray) ++ t197) ++ (⟨#[32]⟩ : ByteArray)).size + t193.size ≤ 9223372036854775807 then (if ((((⟨#[40]⟩ : ByteArray) ++ t197) ++ (⟨#[32]⟩ : ByteArray)) ++ t193).size + 1 ≤ 9223372036854775807 then (if 1 < (l0_3.length : Int) then ((impl_formatCond.f kj12 ((rd_T31 l0_3 1).f0) ((rd_T31 l0_3 1).f1) ((rd_T31 l0_3 1).f2) ((rd_T31 l0_3 1).f3)).bind fun t199 => (if (((((⟨#[40]⟩ : ByteArray) ++ t197) ++ (⟨#[32]⟩ : ByteArray)) ++ t193) ++ (⟨#[32]⟩ : ByteArray)).size + t199.size ≤ 9223372036854775807 then (if ((((((⟨#[40]⟩ : ByteArray) ++ t197) ++ (⟨#[32]⟩ : ByteArray)) ++ t193) ++ (⟨#[32]⟩ : ByteArray)) ++ t199).size + 1 ≤ 9223372036854775807 then (some (((((((⟨#[40]⟩ : ByteArray) ++ t197) ++ (⟨#[32]⟩ : ByteArray)) ++ t193) ++ (⟨#[32]⟩ : ByteArray)) ++ t199) ++ (⟨#[41]⟩ : ByteArray))) else (none)) else (none))) else (none)) else (none)) else (none)) else (none)) else (none)) = some r := H
            have A21 := Aside0.mk A210
            clear A210
            by_cases c22 : 1 + t197.size ≤ 9223372036854775807
            · rw [if_pos c22] at H
              have c22b0 := eq_true c22
              have c22b1 : decide (1 + t197.size ≤ 9223372036854775807) = true := decide_eq_true c22
              try have c22b2 : (9223372036854775807 < 1 + t197.size) = False := eq_false (Nat.not_lt.2 c22)
              by_cases c23 : ((⟨#[40]⟩ : ByteArray) ++ t197).size + 1 ≤ 9223372036854775807
              · rw [if_pos c23] at H
                have c23b0 := eq_true c23
                have c23b1 : decide (((⟨#[40]⟩ : ByteArray) ++ t197).size + 1 ≤ 9223372036854775807) = true := decide_eq_true c23
                try have c23b2 : (9223372036854775807 < ((⟨#[40]⟩ : ByteArray) ++ t197).size + 1) = False := eq_false (Nat.not_lt.2 c23)
                try have c23b3 : (9223372036854775807 < 1 + t197.size + 1) = False := eq_false (Nat.not_lt.2 (show 1 + t197.size + 1 ≤ 9223372036854775807 from by have hh := c23; simp only [ByteArray.size_append] at hh; exact hh))
                by_cases c24 : (((⟨#[40]⟩ : ByteArray) ++ t197) ++ (⟨#[32]⟩ : ByteArray)).size + t193.size ≤ 9223372036854775807
                · rw [if_pos c24] at H
                  have c24b0 := eq_true c24
                  have c24b1 : decide ((((⟨#[40]⟩ : ByteArray) ++ t197) ++ (⟨#[32]⟩ : ByteArray)).size + t193.size ≤ 9223372036854775807) = true := decide_eq_true c24
                  try have c24b2 : (9223372036854775807 < (((⟨#[40]⟩ : ByteArray) ++ t197) ++ (⟨#[32]⟩ : ByteArray)).size + t193.size) = False := eq_false (Nat.not_lt.2 c24)
                  try have c24b3 : (9223372036854775807 < 1 + t197.size + 1 + t193.size) = False := eq_false (Nat.not_lt.2 (show 1 + t197.size + 1 + t193.size ≤ 9223372036854775807 from by have hh := c24; simp only [ByteArray.size_append] at hh; exact hh))
                  by_cases c25 : ((((⟨#[40]⟩ : ByteArray) ++ t197) ++ (⟨#[32]⟩ : ByteArray)) ++ t193).size + 1 ≤ 9223372036854775807
                  · rw [if_pos c25] at H
                    have c25b0 := eq_true c25
                    have c25b1 : decide (((((⟨#[40]⟩ : ByteArray) ++ t197) ++ (⟨#[32]⟩ : ByteArray)) ++ t193).size + 1 ≤ 9223372036854775807) = true := decide_eq_true c25
                    try have c25b2 : (9223372036854775807 < ((((⟨#[40]⟩ : ByteArray) ++ t197) ++ (⟨#[32]⟩ : ByteArray)) ++ t193).size + 1) = False := eq_false (Nat.not_lt.2 c25)
                    try have c25b3 : (9223372036854775807 < 1 + t197.size + 1 + t193.size + 1) = False := eq_false (Nat.not_lt.2 (show 1 + t197.size + 1 + t193.size + 1 ≤ 9223372036854775807 from by have hh := c25; simp only [ByteArray.size_append] at hh; exact hh))
                    by_cases c26 : 1 < (l0_3.length : Int)
                    · rw [if_pos c26] at H
                      have c26b0 : decide (1 < (l0_3.length : Int)) = true := decide_eq_true c26
                      have c26b1 : decide (1 < l0_3.length) = true := decide_eq_true (by omega)
                      clear c26
                      replace H := Option.bind_eq_some_iff.mp H
                      obtain ⟨t199, A270, H⟩ := H
                      replace H : (if (((((⟨#[40]⟩ : ByteArray) ++ t197) ++ (⟨#[32]⟩ : ByteArray)) ++ t193) ++ (⟨#[32]⟩ : ByteArray)).size + t199.size ≤ 9223372036854775807 then (if ((((((⟨#[40]⟩ : ByteArray) ++ t197) ++ (⟨#[32]⟩ : ByteArray)) ++ t193) ++ (⟨#[32]⟩ : ByteArray)) ++ t199).size + 1 ≤ 9223372036854775807 then (some (((((((⟨#[40]⟩ : ByteArray) ++ t197) ++ (⟨#[32]⟩ : ByteArray)) ++ t193) ++ (⟨#[32]⟩ : ByteArray)) ++ t199) ++ (⟨#[41]⟩ : ByteArray))) else (none)) else (none)) = some r := H
                      have A27 := Aside0.mk A270
                      clear A270
                      by_cases c28 : (((((⟨#[40]⟩ : ByteArray) ++ t197) ++ (⟨#[32]⟩ : ByteArray)) ++ t193) ++ (⟨#[32]⟩ : ByteArray)).size + t199.size ≤ 9223372036854775807
                      · rw [if_pos c28] at H
                        have c28b0 := eq_true c28
                        have c28b1 : decide ((((((⟨#[40]⟩ : ByteArray) ++ t197) ++ (⟨#[32]⟩ : ByteArray)) ++ t193) ++ (⟨#[32]⟩ : ByteArray)).size + t199.size ≤ 9223372036854775807) = true := decide_eq_true c28
                        try have c28b2 : (9223372036854775807 < (((((⟨#[40]⟩ : ByteArray) ++ t197) ++ (⟨#[32]⟩ : ByteArray)) ++ t193) ++ (⟨#[32]⟩ : ByteArray)).size + t199.size) = False := eq_false (Nat.not_lt.2 c28)
                        try have c28b3 : (9223372036854775807 < 1 + t197.size + 1 + t193.size + 1 + t199.size) = False := eq_false (Nat.not_lt.2 (show 1 + t197.size + 1 + t193.size + 1 + t199.size ≤ 9223372036854775807 from by have hh := c28; simp only [ByteArray.size_append] at hh; exact hh))
                        by_cases c29 : ((((((⟨#[40]⟩ : ByteArray) ++ t197) ++ (⟨#[32]⟩ : ByteArray)) ++ t193) ++ (⟨#[32]⟩ : ByteArray)) ++ t199).size + 1 ≤ 9223372036854775807
                        · rw [if_pos c29] at H
                          have c29b0 := eq_true c29
                          have c29b1 : decide (((((((⟨#[40]⟩ : ByteArray) ++ t197) ++ (⟨#[32]⟩ : ByteArray)) ++ t193) ++ (⟨#[32]⟩ : ByteArray)) ++ t199).size + 1 ≤ 9223372036854775807) = true := decide_eq_true c29
                          try have c29b2 : (9223372036854775807 < ((((((⟨#[40]⟩ : ByteArray) ++ t197) ++ (⟨#[32]⟩ : ByteArray)) ++ t193) ++ (⟨#[32]⟩ : ByteArray)) ++ t199).size + 1) = False := eq_false (Nat.not_lt.2 c29)
                          try have c29b3 : (9223372036854775807 < 1 + t197.size + 1 + t193.size + 1 + t199.size + 1) = False := eq_false (Nat.not_lt.2 (show 1 + t197.size + 1 + t193.size + 1 + t199.size + 1 ≤ 9223372036854775807 from by have hh := c29; simp only [ByteArray.size_append] at hh; exact hh))
                          obtain rfl := Option.some.inj H
                          try go_wp2
                          have n0_ := Aside0.mk (blk_drew BK192.out)
                          have n1_ := Aside0.mk (below_drew1 HB.out)
                          clear BK192
                          clear HB
                          have BK192 := n0_
                          have HB := n1_
                          clear n0_ n1_
                          have p196 : 0 ≤ (0 : Int) := (by omega)
                          have q196 : 0 < (l0_3.length : Int) := of_decide_eq_true (by first | (with_reducible assumption) | assumption)
                          obtain ⟨ad196, A196_3, c196_3, e196, hx196_0, hx196_1, hx196_2, hx196_3, hl196_3, hi196_3⟩ := at_T31 HR0_3.out 0 p196 q196
                          have hw196_3 := hx196_3
                          (try rw [show ((0 : Int)).toNat = 0 from rfl] at hw196_3)
                          (try rw [show 0 * 4 = 0 from rfl] at hw196_3)
                          (try rw [Addr.add_zero'] at hw196_3)
                          have hw196_2 := hx196_2
                          (try rw [show ((0 : Int)).toNat = 0 from rfl] at hw196_2)
                          (try rw [show 0 * 4 = 0 from rfl] at hw196_2)
                          (try rw [Addr.add_zero'] at hw196_2)
                          have hw196_1 := hx196_1
                          (try rw [show ((0 : Int)).toNat = 0 from rfl] at hw196_1)
                          (try rw [show 0 * 4 = 0 from rfl] at hw196_1)
                          (try rw [Addr.add_zero'] at hw196_1)
                          have hw196_0 := hx196_0
                          (try rw [show ((0 : Int)).toNat = 0 from rfl] at hw196_0)
                          (try rw [show 0 * 4 = 0 from rfl] at hw196_0)
                          (try rw [Addr.add_zero'] at hw196_0)
                          cases e196
                          have qi196 : (0 < l0_3.length) = True := eq_true (by omega)
                          (try rw [show ((0 : Int)).toNat = 0 from rfl] at hx196_0)
                          (try rw [show 0 * 4 = 0 from rfl] at hx196_0)
                          (try rw [Addr.add_zero'] at hx196_0)
                          (try rw [show ((0 : Int)).toNat = 0 from rfl] at hx196_1)
                          (try rw [show 0 * 4 = 0 from rfl] at hx196_1)
                          (try rw [Addr.add_zero'] at hx196_1)
                          (try rw [show ((0 : Int)).toNat = 0 from rfl] at hx196_2)
                          (try rw [show 0 * 4 = 0 from rfl] at hx196_2)
                          (try rw [Addr.add_zero'] at hx196_2)
                          (try rw [show ((0 : Int)).toNat = 0 from rfl] at hx196_3)
                          (try rw [show 0 * 4 = 0 from rfl] at hx196_3)
                          (try rw [Addr.add_zero'] at hx196_3)
                          replace hx196_0 := (HB.out.cell (World.block_lt_of_cell? w _ hx196_0)).trans hx196_0
                          replace hx196_1 := (HB.out.cell (World.block_lt_of_cell? w _ hx196_1)).trans hx196_1
                          replace hx196_2 := (HB.out.cell (World.block_lt_of_cell? w _ hx196_2)).trans hx196_2
                          replace hx196_3 := (HB.out.cell (World.block_lt_of_cell? w _ hx196_3)).trans hx196_3
                          have HR196_3 := Aside0.mk hi196_3
                          have HC196_3 := Aside0.mk hl196_3
                          clear hi196_3 hl196_3
                          replace p196 := eq_true p196
                          replace q196 := eq_true q196
                          have p198 : 0 ≤ (1 : Int) := (by omega)
                          have q198 : 1 < (l0_3.length : Int) := of_decide_eq_true (by first | (with_reducible assumption) | assumption)
                          obtain ⟨ad198, A198_3, c198_3, e198, hx198_0, hx198_1, hx198_2, hx198_3, hl198_3, hi198_3⟩ := at_T31 HR0_3.out 1 p198 q198
                          have hw198_3 := hx198_3
                          (try rw [show ((1 : Int)).toNat = 1 from rfl] at hw198_3)
                          (try rw [show 1 * 4 = 4 from rfl] at hw198_3)
                          (try simp only [Nat.reduceMul, Nat.reduceEqDiff, Go.Addr.add, ↓reduceIte] at hw198_3)
                          have hw198_2 := hx198_2
                          (try rw [show ((1 : Int)).toNat = 1 from rfl] at hw198_2)
                          (try rw [show 1 * 4 = 4 from rfl] at hw198_2)
                          (try simp only [Nat.reduceMul, Nat.reduceEqDiff, Go.Addr.add, ↓reduceIte] at hw198_2)
                          have hw198_1 := hx198_1
                          (try rw [show ((1 : Int)).toNat = 1 from rfl] at hw198_1)
                          (try rw [show 1 * 4 = 4 from rfl] at hw198_1)
                          (try simp only [Nat.reduceMul, Nat.reduceEqDiff, Go.Addr.add, ↓reduceIte] at hw198_1)
                          have hw198_0 := hx198_0
                          (try rw [show ((1 : Int)).toNat = 1 from rfl] at hw198_0)
                          (try rw [show 1 * 4 = 4 from rfl] at hw198_0)
                          (try simp only [Nat.reduceMul, Nat.reduceEqDiff, Go.Addr.add, ↓reduceIte] at hw198_0)
                          obtain rfl : ad196 = ad198 := (by injection e198)
                          (try simp only [show (1 : Int).toNat = 1 from rfl, Nat.reduceMul, Nat.reduceEqDiff, Go.Addr.add, ↓reduceIte] at hx198_0)
                          (try simp only [show (1 : Int).toNat = 1 from rfl, Nat.reduceMul, Nat.reduceEqDiff, Go.Addr.add, ↓reduceIte] at hx198_1)
                          (try simp only [show (1 : Int).toNat = 1 from rfl, Nat.reduceMul, Nat.reduceEqDiff, Go.Addr.add, ↓reduceIte] at hx198_2)
                          (try simp only [show (1 : Int).toNat = 1 from rfl, Nat.reduceMul, Nat.reduceEqDiff, Go.Addr.add, ↓reduceIte] at hx198_3)
                          have qi198 : (1 < l0_3.length) = True := eq_true (by omega)
                          (try rw [show ((1 : Int)).toNat = 1 from rfl] at hx198_0)
                          (try rw [show 1 * 4 = 4 from rfl] at hx198_0)
                          (try rw [show ((1 : Int)).toNat = 1 from rfl] at hx198_1)
                          (try rw [show 1 * 4 = 4 from rfl] at hx198_1)
                          (try rw [show ((1 : Int)).toNat = 1 from rfl] at hx198_2)
                          (try rw [show 1 * 4 = 4 from rfl] at hx198_2)
                          (try rw [show ((1 : Int)).toNat = 1 from rfl] at hx198_3)
                          (try rw [show 1 * 4 = 4 from rfl] at hx198_3)
                          replace hx198_0 := (HB.out.cell (World.block_lt_of_cell? w _ hx198_0)).trans hx198_0
                          replace hx198_1 := (HB.out.cell (World.block_lt_of_cell? w _ hx198_1)).trans hx198_1
                          replace hx198_2 := (HB.out.cell (World.block_lt_of_cell? w _ hx198_2)).trans hx198_2
                          replace hx198_3 := (HB.out.cell (World.block_lt_of_cell? w _ hx198_3)).trans hx198_3
                          have HR198_3 := Aside0.mk hi198_3
                          have HC198_3 := Aside0.mk hl198_3
                          clear hi198_3 hl198_3
                          replace p198 := eq_true p198
                          replace q198 := eq_true q198
                          refine start_ (n := 18) (S := fun w' => w'.cell? ⟨gb192, 0, none⟩ = some (.int .i64 a0_0) ∧ w'.cell? ⟨gb192, 1, none⟩ = some (.int .i64 a0_1) ∧ w'.cell? ⟨gb192, 2, none⟩ = some (.int .i64 a0_2) ∧ w'.cell? ⟨gb192, 3, none⟩ = some (.slice (some ad196) l0_3.length c0_3) ∧ w'.cell? ad196 = some (.int .i64 ((rd_T31 l0_3 0).f0)) ∧ w'.cell? ⟨ad196.block, ad196.off + 1, none⟩ = some (.int .i64 ((rd_T31 l0_3 0).f1)) ∧ w'.cell? ⟨ad196.block, ad196.off + 2, none⟩ = some (.int .i64 ((rd_T31 l0_3 0).f2)) ∧ w'.cell? ⟨ad196.block, ad196.off + 3, none⟩ = some (.slice A196_3 ((rd_T31 l0_3 0).f3).length c196_3) ∧ w'.cell? ⟨ad196.block, ad196.off + 4, none⟩ = some (.int .i64 ((rd_T31 l0_3 1).f0)) ∧ w'.cell? ⟨ad196.block, ad196.off + 4 + 1, none⟩ = some (.int .i64 ((rd_T31 l0_3 1).f1)) ∧ w'.cell? ⟨ad196.block, ad196.off + 4 + 2, none⟩ = some (.int .i64 ((rd_T31 l0_3 1).f2)) ∧ w'.cell? ⟨ad196.block, ad196.off + 4 + 3, none⟩ = some (.slice A198_3 ((rd_T31 l0_3 1).f3).length c198_3)) (ds := []) #[false, false, false, false, false, false, false, false, false, false, false, false, false, false, false, false, false, false] (by kernel_rfl) rfl rfl ⟨(blk_cell BK192.out 0).trans rfl, (blk_cell BK192.out 1).trans rfl, (blk_cell BK192.out 2).trans rfl, (blk_cell BK192.out 3).trans rfl, ((HB.out.cell (World.block_lt_of_cell? w _ hw196_0)).trans hw196_0), ((HB.out.cell (World.block_lt_of_cell? w _ hw196_1)).trans hw196_1), ((HB.out.cell (World.block_lt_of_cell? w _ hw196_2)).trans hw196_2), ((HB.out.cell (World.block_lt_of_cell? w _ hw196_3)).trans hw196_3), ((HB.out.cell (World.block_lt_of_cell? w _ hw198_0)).trans hw198_0), ((HB.out.cell (World.block_lt_of_cell? w _ hw198_1)).trans hw198_1), ((HB.out.cell (World.block_lt_of_cell? w _ hw198_2)).trans hw198_2), ((HB.out.cell (World.block_lt_of_cell? w _ hw198_3)).trans hw198_3)⟩ (fun hHeld => ?_); refine with_tabW impl_formatCond.tab7 impl_formatCond.bits7 (fun HT_ HW_ => ?_)
                          generalize wc.drew = w30 at BK192 HB HR196_3 HR198_3 hx196_0 hx196_1 hx196_2 hx196_3 hx198_0 hx198_1 hx198_2 hx198_3 hHeld ⊢
                          refine pure_ (i := 0) (N := some 23) (v := ?_) (a' := ?_) #[true, false, false, false, false, false, false, false, false, false, false, false, false, false, false, false, false, false] rfl rfl (any_of HT_.out (by kernel_rfl)) (fun _ _ _ h => h) (Or.inl ⟨by rfl, ?_⟩) ?_ ?_
                          rotate_left
                          · intro w'
                            go_simp
                            with_reducible rfl
                          rotate_left
                          · simp only [Act.put, List.setIfInBounds_toArray, List.set_cons_zero, List.set_cons_succ, i64_w, i32_w]
                            rfl
                          refine pure_ (i := 7) (N := some 30) (v := ?_) (a' := ?_) #[true, false, false, false, false, false, false, true, false, false, false, false, false, false, false, false, false, false] rfl rfl (any_of HT_.out (by kernel_rfl)) (fun _ _ _ h => h) (Or.inl ⟨by rfl, ?_⟩) ?_ ?_
                          rotate_left
                          · intro w'
                            go_simp
                            with_reducible rfl
                          rotate_left
                          · simp only [Act.put, List.setIfInBounds_toArray, List.set_cons_zero, List.set_cons_succ, i64_w, i32_w]
                            rfl
                          refine pure_ (i := 10) (N := some 33) (v := ?_) (a' := ?_) #[true, false, false, false, false, false, false, true, false, false, true, false, false, false, false, false, false, false] rfl rfl (any_of HT_.out (by kernel_rfl)) (fun _ _ _ h => h) (Or.inl ⟨by rfl, ?_⟩) ?_ ?_
                          rotate_left
                          · intro w'
                            go_simp
                            with_reducible rfl
                          rotate_left
                          · simp only [Act.put, List.setIfInBounds_toArray, List.set_cons_zero, List.set_cons_succ, i64_w, i32_w]
                            rfl
                          refine take_ (i := 1) (N := some 24) (v := ?_) (a' := ?_) #[true, true, false, false, false, false, false, true, false, false, true, false, false, false, false, false, false, false] rfl rfl (take_ofW HT_.out HW_.out (by kernel_rfl)) (fun _ _ _ h => h) (Or.inl ⟨by rfl, ?_⟩) hHeld ?_ ?_
                          rotate_left
                          · rintro w' ⟨s0, s1, s2, s3, s4, s5, s6, s7, s8, s9, s10, s11⟩
                            go_simp
                            with_reducible rfl
                          rotate_left
                          · simp only [Act.put, List.setIfInBounds_toArray, List.set_cons_zero, List.set_cons_succ, i64_w, i32_w]
                            rfl
                          refine pure_ (i := 2) (N := some 25) (v := ?_) (a' := ?_) #[true, true, true, false, false, false, false, true, false, false, true, false, false, false, false, false, false, false] rfl rfl (any_of HT_.out (by kernel_rfl)) (fun _ _ _ h => h) (Or.inl ⟨by rfl, ?_⟩) ?_ ?_
                          rotate_left
                          · intro w'
                            go_simp
                            with_reducible rfl
                          rotate_left
                          · simp only [Act.put, List.setIfInBounds_toArray, List.set_cons_zero, List.set_cons_succ, i64_w, i32_w]
                            rfl
                          refine take_ (i := 3) (N := some 26) (v := ?_) (a' := ?_) #[true, true, true, true, false, false, false, true, false, false, true, false, false, false, false, false, false, false] rfl rfl (take_ofW HT_.out HW_.out (by kernel_rfl)) (fun _ _ _ h => h) (Or.inl ⟨by rfl, ?_⟩) hHeld ?_ ?_
                          rotate_left
                          · rintro w' ⟨s0, s1, s2, s3, s4, s5, s6, s7, s8, s9, s10, s11⟩
                            go_simp
                            with_reducible rfl
                          rotate_left
                          · simp only [Act.put, List.setIfInBounds_toArray, List.set_cons_zero, List.set_cons_succ, i64_w, i32_w]
                            rfl
                          refine take_ (i := 11) (N := some 34) (v := ?_) (a' := ?_) #[true, true, true, true, false, false, false, true, false, false, true, true, false, false, false, false, false, false] rfl rfl (take_ofW HT_.out HW_.out (by kernel_rfl)) (fun _ _ _ h => h) (Or.inl ⟨by rfl, ?_⟩) hHeld ?_ ?_
                          rotate_left
                          · rintro w' ⟨s0, s1, s2, s3, s4, s5, s6, s7, s8, s9, s10, s11⟩
                            go_simp
                            with_reducible rfl
                          rotate_left
                          · simp only [Act.put, List.setIfInBounds_toArray, List.set_cons_zero, List.set_cons_succ, i64_w, i32_w]
                            rfl
                          refine pure_ (i := 12) (N := some 35) (v := ?_) (a' := ?_) #[true, true, true, true, false, false, false, true, false, false, true, true, true, false, false, false, false, false] rfl rfl (any_of HT_.out (by kernel_rfl)) (fun _ _ _ h => h) (Or.inl ⟨by rfl, ?_⟩) ?_ ?_
                          rotate_left
                          · intro w'
                            go_simp
                            with_reducible rfl
                          rotate_left
                          · simp only [Act.put, List.setIfInBounds_toArray, List.set_cons_zero, List.set_cons_succ, i64_w, i32_w]
                            rfl
                          refine take_ (i := 13) (N := some 36) (v := ?_) (a' := ?_) #[true, true, true, true, false, false, false, true, false, false, true, true, true, true, false, false, false, false] rfl rfl (take_ofW HT_.out HW_.out (by kernel_rfl)) (fun _ _ _ h => h) (Or.inl ⟨by rfl, ?_⟩) hHeld ?_ ?_
                          rotate_left
                          · rintro w' ⟨s0, s1, s2, s3, s4, s5, s6, s7, s8, s9, s10, s11⟩
                            go_simp
                            with_reducible rfl
                          rotate_left
                          · simp only [Act.put, List.setIfInBounds_toArray, List.set_cons_zero, List.set_cons_succ, i64_w, i32_w]
                            rfl
                          refine one_ (i := 4) (N := some 27) #[true, true, true, true, true, false, false, true, false, false, true, true, true, true, false, false, false, false] rfl rfl (one_of HT_.out (by kernel_rfl)) (by decide) (fun K hK => ?_)
                          refine goes_ Tryd.func19 (by kernel_rfl) rfl #[.agg #[.int .i64 ((rd_T31 l0_3 0).f0), .int .i64 ((rd_T31 l0_3 0).f1), .int .i64 ((rd_T31 l0_3 0).f2), .slice A196_3 ((rd_T31 l0_3 0).f3).length c196_3]] (by rfl) rfl rfl (by (try simp only [List.map_toArray, List.map_cons, List.map_nil]); first | done | rfl | (simp only [List.length_drop, List.length_take]; rfl)) ?_
                          with_reducible refine (ih kj12 (by have := HJ12.out; omega) ((rd_T31 l0_3 0).f0) ((rd_T31 l0_3 0).f1) ((rd_T31 l0_3 0).f2) _ _ ((rd_T31 l0_3 0).f3) t197 _ ?side1 ?side2 A21.out (HTab.out.below (by repeat (first | (with_reducible first | exact HB.out | apply below_alloc | apply pw_below_drewN | apply below_drew1 | refine below_set ?_ GE192.out) | exact HB.out)))).mono ?_
                          (case side1 => repeat (first | exact (Kd.C_below HR196_3.out HB.out) | (with_reducible refine Kd.C_alloc ?_ _) | (with_reducible refine Kd.C_drewN ?_ _) | (with_reducible refine Kd.C_drew ?_)))
                          (case side2 => exact HC196_3.out)
                          rintro e w31 ⟨rfl, hb⟩
                          refine ⟨_, rfl, ?_⟩
                          have n0_ := Aside0.mk (blk_below (g := gb192) (o := .cells #[.int .i64 a0_0, .int .i64 a0_1, .int .i64 a0_2, .slice (some ad196) l0_3.length c0_3] 31 (0, 0)) (by (with_reducible repeat (first | refine blk_drewN ?_ _ | refine blk_drew ?_ | refine blk_alloc ?_ _)); exact BK192.out) hb)
                          have n1_ := Aside0.mk (below_step (by repeat (first | (with_reducible first | exact HB.out | apply below_alloc | apply pw_below_drewN | apply below_drew1 | refine below_set ?_ GE192.out) | exact HB.out)) hb)
                          clear BK192
                          clear HB
                          have BK192 := n0_
                          have HB := n1_
                          clear n0_ n1_
                          (try clear hb)
                          (try clear hb2)
                          (try clear hk)
                          (try clear hi)
                          refine hK.out _ _ ⟨(blk_cell BK192.out 0).trans rfl, (blk_cell BK192.out 1).trans rfl, (blk_cell BK192.out 2).trans rfl, (blk_cell BK192.out 3).trans rfl, ((HB.out.cell (World.block_lt_of_cell? w _ hw196_0)).trans hw196_0), ((HB.out.cell (World.block_lt_of_cell? w _ hw196_1)).trans hw196_1), ((HB.out.cell (World.block_lt_of_cell? w _ hw196_2)).trans hw196_2), ((HB.out.cell (World.block_lt_of_cell? w _ hw196_3)).trans hw196_3), ((HB.out.cell (World.block_lt_of_cell? w _ hw198_0)).trans hw198_0), ((HB.out.cell (World.block_lt_of_cell? w _ hw198_1)).trans hw198_1), ((HB.out.cell (World.block_lt_of_cell? w _ hw198_2)).trans hw198_2), ((HB.out.cell (World.block_lt_of_cell? w _ hw198_3)).trans hw198_3)⟩ (fun hHeld => ?_)
                          clear hK K
                          refine norm_ (a' := ?_) ?_ ?_
                          rotate_left
                          · show Act.put _ (some 27) _ = _
                            simp only [Act.put, List.setIfInBounds_toArray, List.set_cons_zero, List.set_cons_succ, i64_w, i32_w]
                            rfl
                          refine pure_ (i := 5) (N := some 28) (v := ?_) (a' := ?_) #[true, true, true, true, true, true, false, true, false, false, true, true, true, true, false, false, false, false] rfl rfl (any_of HT_.out (by kernel_rfl)) (fun _ _ _ h => h) (Or.inl ⟨by rfl, ?_⟩) ?_ ?_
                          rotate_left
                          · intro w'
                            go_simp
                            with_reducible rfl
                          rotate_left
                          · simp only [Act.put, List.setIfInBounds_toArray, List.set_cons_zero, List.set_cons_succ, i64_w, i32_w]
                            rfl
                          refine pure_ (i := 6) (N := some 29) (v := ?_) (a' := ?_) #[true, true, true, true, true, true, true, true, false, false, true, true, true, true, false, false, false, false] rfl rfl (any_of HT_.out (by kernel_rfl)) (fun _ _ _ h => h) (Or.inl ⟨by rfl, ?_⟩) ?_ ?_
                          rotate_left
                          · intro w'
                            go_simp
                            with_reducible rfl
                          rotate_left
                          · simp only [Act.put, List.setIfInBounds_toArray, List.set_cons_zero, List.set_cons_succ, i64_w, i32_w]
                            rfl
                          refine pure_ (i := 8) (N := some 31) (v := ?_) (a' := ?_) #[true, true, true, true, true, true, true, true, true, false, true, true, true, true, false, false, false, false] rfl rfl (any_of HT_.out (by kernel_rfl)) (fun _ _ _ h => h) (Or.inl ⟨by rfl, ?_⟩) ?_ ?_
                          rotate_left
                          · intro w'
                            go_simp
                            with_reducible rfl
                          rotate_left
                          · simp only [Act.put, List.setIfInBounds_toArray, List.set_cons_zero, List.set_cons_succ, i64_w, i32_w]
                            rfl
                          refine pure_ (i := 9) (N := some 32) (v := ?_) (a' := ?_) #[true, true, true, true, true, true, true, true, true, true, true, true, true, true, false, false, false, false] rfl rfl (any_of HT_.out (by kernel_rfl)) (fun _ _ _ h => h) (Or.inl ⟨by rfl, ?_⟩) ?_ ?_
                          rotate_left
                          · intro w'
                            go_simp
                            with_reducible rfl
                          rotate_left
                          · simp only [Act.put, List.setIfInBounds_toArray, List.set_cons_zero, List.set_cons_succ, i64_w, i32_w]
                            rfl
                          refine one_ (i := 14) (N := some 37) #[true, true, true, true, true, true, true, true, true, true, true, true, true, true, true, false, false, false] rfl rfl (one_of HT_.out (by kernel_rfl)) (by decide) (fun K hK => ?_)
                          refine goes_ Tryd.func19 (by kernel_rfl) rfl #[.agg #[.int .i64 ((rd_T31 l0_3 1).f0), .int .i64 ((rd_T31 l0_3 1).f1), .int .i64 ((rd_T31 l0_3 1).f2), .slice A198_3 ((rd_T31 l0_3 1).f3).length c198_3]] (by rfl) rfl rfl (by (try simp only [List.map_toArray, List.map_cons, List.map_nil]); first | done | rfl | (simp only [List.length_drop, List.length_take]; rfl)) ?_
                          with_reducible refine (ih kj12 (by have := HJ12.out; omega) ((rd_T31 l0_3 1).f0) ((rd_T31 l0_3 1).f1) ((rd_T31 l0_3 1).f2) _ _ ((rd_T31 l0_3 1).f3) t199 _ ?side1 ?side2 A27.out (HTab.out.below (by repeat (first | (with_reducible first | exact HB.out | apply below_alloc | apply pw_below_drewN | apply below_drew1 | refine below_set ?_ GE192.out) | exact HB.out)))).mono ?_
                          (case side1 => repeat (first | exact (Kd.C_below HR198_3.out HB.out) | (with_reducible refine Kd.C_alloc ?_ _) | (with_reducible refine Kd.C_drewN ?_ _) | (with_reducible refine Kd.C_drew ?_)))
                          (case side2 => exact HC198_3.out)
                          rintro e w32 ⟨rfl, hb⟩
                          refine ⟨_, rfl, ?_⟩
                          have n0_ := Aside0.mk (blk_below (g := gb192) (o := .cells #[.int .i64 a0_0, .int .i64 a0_1, .int .i64 a0_2, .slice (some ad196) l0_3.length c0_3] 31 (0, 0)) (by (with_reducible repeat (first | refine blk_drewN ?_ _ | refine blk_drew ?_ | refine blk_alloc ?_ _)); exact BK192.out) hb)
                          have n1_ := Aside0.mk (below_step (by repeat (first | (with_reducible first | exact HB.out | apply below_alloc | apply pw_below_drewN | apply below_drew1 | refine below_set ?_ GE192.out) | exact HB.out)) hb)
                          clear BK192
                          clear HB
                          have BK192 := n0_
                          have HB := n1_
                          clear n0_ n1_
                          (try clear hb)
                          (try clear hb2)
                          (try clear hk)
                          (try clear hi)
                          refine hK.out _ _ ⟨(blk_cell BK192.out 0).trans rfl, (blk_cell BK192.out 1).trans rfl, (blk_cell BK192.out 2).trans rfl, (blk_cell BK192.out 3).trans rfl, ((HB.out.cell (World.block_lt_of_cell? w _ hw196_0)).trans hw196_0), ((HB.out.cell (World.block_lt_of_cell? w _ hw196_1)).trans hw196_1), ((HB.out.cell (World.block_lt_of_cell? w _ hw196_2)).trans hw196_2), ((HB.out.cell (World.block_lt_of_cell? w _ hw196_3)).trans hw196_3), ((HB.out.cell (World.block_lt_of_cell? w _ hw198_0)).trans hw198_0), ((HB.out.cell (World.block_lt_of_cell? w _ hw198_1)).trans hw198_1), ((HB.out.cell (World.block_lt_of_cell? w _ hw198_2)).trans hw198_2), ((HB.out.cell (World.block_lt_of_cell? w _ hw198_3)).trans hw198_3)⟩ (fun hHeld => ?_)
                          clear hK K
                          refine norm_ (a' := ?_) ?_ ?_
                          rotate_left
                          · show Act.put _ (some 37) _ = _
                            simp only [Act.put, List.setIfInBounds_toArray, List.set_cons_zero, List.set_cons_succ, i64_w, i32_w]
                            rfl
                          refine pure_ (i := 15) (N := some 38) (v := ?_) (a' := ?_) #[true, true, true, true, true, true, true, true, true, true, true, true, true, true, true, true, false, false] rfl rfl (any_of HT_.out (by kernel_rfl)) (fun _ _ _ h => h) (Or.inl ⟨by rfl, ?_⟩) ?_ ?_
                          rotate_left
                          · intro w'
                            go_simp
                            with_reducible rfl
                          rotate_left
                          · simp only [Act.put, List.setIfInBounds_toArray, List.set_cons_zero, List.set_cons_succ, i64_w, i32_w]
                            rfl
                          refine pure_ (i := 16) (N := some 39) (v := ?_) (a' := ?_) #[true, true, true, true, true, true, true, true, true, true, true, true, true, true, true, true, true, false] rfl rfl (any_of HT_.out (by kernel_rfl)) (fun _ _ _ h => h) (Or.inl ⟨by rfl, ?_⟩) ?_ ?_
                          rotate_left
                          · intro w'
                            go_simp
                            with_reducible rfl
                          rotate_left
                          · simp only [Act.put, List.setIfInBounds_toArray, List.set_cons_zero, List.set_cons_succ, i64_w, i32_w]
                            rfl
                          refine pure_ (i := 17) (N := some 2) (v := ?_) (a' := ?_) #[true, true, true, true, true, true, true, true, true, true, true, true, true, true, true, true, true, true] rfl rfl (any_of HT_.out (by kernel_rfl)) (fun _ _ _ h => h) (Or.inl ⟨by rfl, ?_⟩) ?_ ?_
                          rotate_left
                          · intro w'
                            go_simp
                            with_reducible rfl
                          rotate_left
                          · simp only [Act.put, List.setIfInBounds_toArray, List.set_cons_zero, List.set_cons_succ, i64_w, i32_w]
                            rfl
                          refine done_ (done_of HT_.out (by kernel_rfl)) ?_
                          try go_wp2
                          go_ret
                          exact ⟨by first | rfl | (simp [errW_none, errW_some] <;> rfl) | (simp [*, errW_none, errW_some] <;> rfl), by repeat (first | (with_reducible first | exact HB.out | apply below_alloc | apply pw_below_drewN | apply below_drew1 | refine below_set ?_ GE192.out) | exact HB.out)⟩
                        · rw [if_neg c29] at H
                          exact absurd H (by simp)
                      · rw [if_neg c28] at H
                        exact absurd H (by simp)
                    · rw [if_neg c26] at H
                      exact absurd H (by simp)
                  · rw [if_neg c25] at H
                    exact absurd H (by simp)
                · rw [if_neg c24] at H
                  exact absurd H (by simp)
              · rw [if_neg c23] at H
                exact absurd H (by simp)
            · rw [if_neg c22] at H
              exact absurd H (by simp)
          · rw [if_neg c20] at H
            exact absurd H (by simp)
        · replace c19 := Bool.eq_false_iff.mpr c19
          subst c19
          have H1 : (if a0_0 = 1 then (impl_formatCond.j1 kj12 t193 false a0_0 a0_1 a0_2 l0_3) else (impl_formatCond.j1 kj12 t193 (a0_0 != 3) a0_0 a0_1 a0_2 l0_3)) = some r := by rw [if_neg (show ¬ (false = true) by decide)] at H; exact H
          clear H
          have H := H1
          clear H1
          have HC33 := Aside0.mk H
          clear H
          go_upto_region 8 with (fail)
          go_cut [47] (fun v47 wc => ∃ (kq : Nat) (x47_32 : Bool), v47 = .bool x47_32 ∧ Aside0 (impl_formatCond.j1 kq t193 x47_32 a0_0 a0_1 a0_2 l0_3 = some r) ∧ Aside0 (kq ≤ kj12) ∧ Aside0 (wc.heap[gb192]? = some (.cells #[.int .i64 a0_0, .int .i64 a0_1, .int .i64 a0_2, (.slice A0_3 l0_3.length c0_3)] 31 (0, 0))) ∧ Aside0 (Below w.heap.size w wc))
          case first =>
            have H := HC33.out
            clear HC33
            by_cases c34 : a0_0 = 1
            · rw [if_pos c34] at H
              have c34b0 : (a0_0 == 1) = true := beq_iff_eq.mpr c34
              have c34b1 : (a0_0 != 1) = false := bne_eq_false_iff_eq.mpr c34
              clear c34
              (first | rw [c34b0] | (simp only [i64_w, i32_w]; rw [c34b0]) | skip)
              have H' := Aside0.mk H
              clear H
              have hcz35_0 : wc.cell? ⟨gb192, 0, none⟩ = some (.int .i64 a0_0) := (blk_cell BK192.out 0).trans rfl
              have hcz35_1 : wc.cell? ⟨gb192, 1, none⟩ = some (.int .i64 a0_1) := (blk_cell BK192.out 1).trans rfl
              have hcz35_2 : wc.cell? ⟨gb192, 2, none⟩ = some (.int .i64 a0_2) := (blk_cell BK192.out 2).trans rfl
              have hcz35_3 : wc.cell? ⟨gb192, 3, none⟩ = some (.slice A0_3 l0_3.length c0_3) := (blk_cell BK192.out 3).trans rfl
              have hfz35_0 := blk_frozen BK192.out 0
              have hfz35_1 := blk_frozen BK192.out 1
              have hfz35_2 := blk_frozen BK192.out 2
              have hfz35_3 := blk_frozen BK192.out 3
              go_wp2
              go_meet
              case rel => exact ⟨_, (false), (by first | rfl | (simp; done) | (simp [*]; done)), H', ⟨by have := HJ12.out; first | omega | exact Nat.le_refl _⟩, ⟨by (with_reducible repeat (first | refine blk_drewN ?_ _ | refine blk_drew ?_ | refine blk_alloc ?_ _)); exact BK192.out⟩, ⟨by repeat (first | (with_reducible first | exact HB.out | apply below_alloc | apply pw_below_drewN | apply below_drew1 | refine below_set ?_ GE192.out) | exact HB.out)⟩⟩
            · rw [if_neg c34] at H
              have c34b0 : (a0_0 == 1) = false := beq_eq_false_iff_ne.mpr c34
              have c34b1 : (a0_0 != 1) = true := bne_iff_ne.mpr c34
              (first | rw [c34b0] | (simp only [i64_w, i32_w]; rw [c34b0]) | skip)
              have H' := Aside0.mk H
              clear H
              have hcz36_0 : wc.cell? ⟨gb192, 0, none⟩ = some (.int .i64 a0_0) := (blk_cell BK192.out 0).trans rfl
              have hcz36_1 : wc.cell? ⟨gb192, 1, none⟩ = some (.int .i64 a0_1) := (blk_cell BK192.out 1).trans rfl
              have hcz36_2 : wc.cell? ⟨gb192, 2, none⟩ = some (.int .i64 a0_2) := (blk_cell BK192.out 2).trans rfl
              have hcz36_3 : wc.cell? ⟨gb192, 3, none⟩ = some (.slice A0_3 l0_3.length c0_3) := (blk_cell BK192.out 3).trans rfl
              have hfz36_0 := blk_frozen BK192.out 0
              have hfz36_1 := blk_frozen BK192.out 1
              have hfz36_2 := blk_frozen BK192.out 2
              have hfz36_3 := blk_frozen BK192.out 3
              go_wp2
              go_meet
              case rel => exact ⟨_, ((a0_0 != 3)), (by first | rfl | (simp; done) | (simp [*]; done)), H', ⟨by have := HJ12.out; first | omega | exact Nat.le_refl _⟩, ⟨by (with_reducible repeat (first | refine blk_drewN ?_ _ | refine blk_drew ?_ | refine blk_alloc ?_ _)); exact BK192.out⟩, ⟨by repeat (first | (with_reducible first | exact HB.out | apply below_alloc | apply pw_below_drewN | apply below_drew1 | refine below_set ?_ GE192.out) | exact HB.out)⟩⟩
          case rest =>
            clear HC33
            try clear c1
            try clear p1
            try clear q1
            try clear hx1
            try clear qi1
            try clear c2
            try clear p2
            try clear c3
            try clear c3b0
            try clear c3b1
            try clear c4
            try clear c4b0
            try clear c4b1
            try clear c4b2
            try clear c5
            try clear c5b0
            try clear c5b1
            try clear c6
            try clear c7
            try clear c7b0
            try clear c7b1
            try clear c7b2
            try clear c18
            try clear c18b0
            try clear c18b1
            try clear c19
            try clear p19
            try clear q19
            try clear hx19
            try clear qi19
            try clear c20
            try clear c20b0
            try clear c20b1
            try clear c22
            try clear c22b0
            try clear c22b1
            try clear c22b2
            try clear c23
            try clear c23b0
            try clear c23b1
            try clear c23b2
            try clear c24
            try clear c24b0
            try clear c24b1
            try clear c24b2
            try clear c25
            try clear c25b0
            try clear c25b1
            try clear c25b2
            try clear c26
            try clear c26b0
            try clear c26b1
            try clear c28
            try clear c28b0
            try clear c28b1
            try clear c28b2
            try clear c29
            try clear c29b0
            try clear c29b1
            try clear c29b2
            try clear c34
            try clear c34b0
            try clear c34b1
            try clear hcz11_0
            try clear hcz11_1
            try clear hcz11_2
            try clear hcz11_3
            try clear hcz15_0
            try clear hcz15_1
            try clear hcz15_2
            try clear hcz15_3
            try clear hcz17_0
            try clear hcz17_1
            try clear hcz17_2
            try clear hcz17_3
            try clear hcz35_0
            try clear hcz35_1
            try clear hcz35_2
            try clear hcz35_3
            try clear hcz36_0
            try clear hcz36_1
            try clear hcz36_2
            try clear hcz36_3
            try clear hcz9_0
            try clear hcz9_1
            try clear hcz9_2
            try clear hcz9_3
            try clear hfz11_0
            try clear hfz11_1
            try clear hfz11_2
            try clear hfz11_3
            try clear hfz15_0
            try clear hfz15_1
            try clear hfz15_2
            try clear hfz15_3
            try clear hfz17_0
            try clear hfz17_1
            try clear hfz17_2
            try clear hfz17_3
            try clear hfz35_0
            try clear hfz35_1
            try clear hfz35_2
            try clear hfz35_3
            try clear hfz36_0
            try clear hfz36_1
            try clear hfz36_2
            try clear hfz36_3
            try clear hfz9_0
            try clear hfz9_1
            try clear hfz9_2
            try clear hfz9_3
            try clear hx194_0
            try clear hx194_1
            try clear hx194_2
            try clear hx194_3
            try clear hx196_0
            try clear hx196_1
            try clear hx196_2
            try clear hx196_3
            try clear hx198_0
            try clear hx198_1
            try clear hx198_2
            try clear hx198_3
            try clear p1
            try clear p194
            try clear p196
            try clear p198
            try clear p2
            try clear q1
            try clear q194
            try clear q196
            try clear q198
            obtain ⟨kq, x47_32, rfl, HA, HJ32, BK192, HB⟩ := hcut
            cases kq with
            | zero => exact absurd HA.out (by simp [impl_formatCond.j1])
            | succ kj32 =>
              have H := HA.out
              clear HA
              simp only [impl_formatCond.j1] at H
              have HC37 := Aside0.mk H
              clear H
              go_upto_if 47 with (fail)
              go_cut [3] (fun v3 wc => ∃ (kq : Nat) (x3_36 : ByteArray), v3 = .string x3_36 ∧ Aside0 (impl_formatCond.j2 kq x3_36 a0_0 a0_1 a0_2 l0_3 = some r) ∧ Aside0 (kq ≤ kj32) ∧ Aside0 (wc.heap[gb192]? = some (.cells #[.int .i64 a0_0, .int .i64 a0_1, .int .i64 a0_2, (.slice A0_3 l0_3.length c0_3)] 31 (0, 0))) ∧ Aside0 (Below w.heap.size w wc))
              case first =>
                have H := HC37.out
                clear HC37
                by_cases c38 : x47_32 = true
                · subst c38
                  have H1 : ((impl_FormatInt.f a0_1).bind fun t200 => (if 1 + t200.size ≤ 9223372036854775807 then (if t193.size + ((⟨#[32]⟩ : ByteArray) ++ t200).size ≤ 9223372036854775807 then (impl_formatCond.j2 kj32 (t193 ++ ((⟨#[32]⟩ : ByteArray) ++ t200)) a0_0 a0_1 a0_2 l0_3) else (none)) else (none))) = some r := by rw [if_pos rfl] at H; exact H
                  clear H
                  have H := H1
                  clear H1
                  replace H := Option.bind_eq_some_iff.mp H
                  obtain ⟨t200, A390, H⟩ := H
                  replace H : (if 1 + t200.size ≤ 9223372036854775807 then (if t193.size + ((⟨#[32]⟩ : ByteArray) ++ t200).size ≤ 9223372036854775807 then (impl_formatCond.j2 kj32 (t193 ++ ((⟨#[32]⟩ : ByteArray) ++ t200)) a0_0 a0_1 a0_2 l0_3) else (none)) else (none)) = some r := H
                  have A39 := Aside0.mk A390
                  clear A390
                  by_cases c40 : 1 + t200.size ≤ 9223372036854775807
                  · rw [if_pos c40] at H
                    have c40b0 := eq_true c40
                    have c40b1 : decide (1 + t200.size ≤ 9223372036854775807) = true := decide_eq_true c40
                    try have c40b2 : (9223372036854775807 < 1 + t200.size) = False := eq_false (Nat.not_lt.2 c40)
                    by_cases c41 : t193.size + ((⟨#[32]⟩ : ByteArray) ++ t200).size ≤ 9223372036854775807
                    · rw [if_pos c41] at H
                      have c41b0 := eq_true c41
                      have c41b1 : decide (t193.size + ((⟨#[32]⟩ : ByteArray) ++ t200).size ≤ 9223372036854775807) = true := decide_eq_true c41
                      try have c41b2 : (9223372036854775807 < t193.size + ((⟨#[32]⟩ : ByteArray) ++ t200).size) = False := eq_false (Nat.not_lt.2 c41)
                      try have c41b3 : (9223372036854775807 < t193.size + (1 + t200.size)) = False := eq_false (Nat.not_lt.2 (show t193.size + (1 + t200.size) ≤ 9223372036854775807 from by have hh := c41; simp only [ByteArray.size_append] at hh; exact hh))
                      have H' := Aside0.mk H
                      clear H
                      have hcz42_0 : wc.cell? ⟨gb192, 0, none⟩ = some (.int .i64 a0_0) := (blk_cell BK192.out 0).trans rfl
                      have hcz42_1 : wc.cell? ⟨gb192, 1, none⟩ = some (.int .i64 a0_1) := (blk_cell BK192.out 1).trans rfl
                      have hcz42_2 : wc.cell? ⟨gb192, 2, none⟩ = some (.int .i64 a0_2) := (blk_cell BK192.out 2).trans rfl
                      have hcz42_3 : wc.cell? ⟨gb192, 3, none⟩ = some (.slice A0_3 l0_3.length c0_3) := (blk_cell BK192.out 3).trans rfl
                      have hfz42_0 := blk_frozen BK192.out 0
                      have hfz42_1 := blk_frozen BK192.out 1
                      have hfz42_2 := blk_frozen BK192.out 2
                      have hfz42_3 := blk_frozen BK192.out 3
                      go_wp2_with (first | ((with_reducible refine gate_callee (f := 26) rfl ?_); refine goesL_ (some 51) rfl rfl Tryd.func26 (by kernel_rfl) rfl #[.int .i64 a0_1] rfl (by (try simp only [List.map_toArray, List.map_cons, List.map_nil]); first | done | rfl | (simp only [List.length_drop, List.length_take]; rfl)) ?_; (with_reducible refine (impl_FormatInt.calls a0_1 t200 _ A39.out (HTab.out.below (by repeat (first | (with_reducible first | exact HB.out | apply below_alloc | apply pw_below_drewN | apply below_drew1 | refine below_set ?_ GE192.out) | exact HB.out)))).mono ?_); rintro e w43 ⟨rfl, hb⟩; refine ⟨_, rfl, ?_⟩; have n0_ := Aside0.mk (blk_below (g := gb192) (o := .cells #[.int .i64 a0_0, .int .i64 a0_1, .int .i64 a0_2, .slice A0_3 l0_3.length c0_3] 31 (0, 0)) (by (with_reducible repeat (first | refine blk_drewN ?_ _ | refine blk_drew ?_ | refine blk_alloc ?_ _)); exact BK192.out) hb); have n1_ := Aside0.mk (below_step (by repeat (first | (with_reducible first | exact HB.out | apply below_alloc | apply pw_below_drewN | apply below_drew1 | refine below_set ?_ GE192.out) | exact HB.out)) hb); clear BK192; clear HB; have BK192 := n0_; have HB := n1_; clear n0_ n1_; (try clear hb); (try clear hb2); (try clear hk); (try clear hi)))
                      go_meet
                      case rel => exact ⟨_, (t193 ++ ((⟨#[32]⟩ : ByteArray) ++ t200)), (by first | rfl | (simp; done) | (simp [*]; done)), H', ⟨by have := HJ12.out; have := HJ32.out; first | omega | exact Nat.le_refl _⟩, ⟨by (with_reducible repeat (first | refine blk_drewN ?_ _ | refine blk_drew ?_ | refine blk_alloc ?_ _)); exact BK192.out⟩, ⟨by repeat (first | (with_reducible first | exact HB.out | apply below_alloc | apply pw_below_drewN | apply below_drew1 | refine below_set ?_ GE192.out) | exact HB.out)⟩⟩
                    · rw [if_neg c41] at H
                      exact absurd H (by simp)
                  · rw [if_neg c40] at H
                    exact absurd H (by simp)
                · replace c38 := Bool.eq_false_iff.mpr c38
                  subst c38
                  have H1 : (impl_formatCond.j2 kj32 t193 a0_0 a0_1 a0_2 l0_3) = some r := by rw [if_neg (show ¬ (false = true) by decide)] at H; exact H
                  clear H
                  have H := H1
                  clear H1
                  have H' := Aside0.mk H
                  clear H
                  go_wp2
                  go_meet
                  case rel => exact ⟨_, (t193), (by first | rfl | (simp; done) | (simp [*]; done)), H', ⟨by have := HJ12.out; have := HJ32.out; first | omega | exact Nat.le_refl _⟩, ⟨by (with_reducible repeat (first | refine blk_drewN ?_ _ | refine blk_drew ?_ | refine blk_alloc ?_ _)); exact BK192.out⟩, ⟨by repeat (first | (with_reducible first | exact HB.out | apply below_alloc | apply pw_below_drewN | apply below_drew1 | refine below_set ?_ GE192.out) | exact HB.out)⟩⟩
              case rest =>
                clear HC37
                try clear c1
                try clear p1
                try clear q1
                try clear hx1
                try clear qi1
                try clear c2
                try clear p2
                try clear c3
                try clear c3b0
                try clear c3b1
                try clear c4
                try clear c4b0
                try clear c4b1
                try clear c4b2
                try clear c5
                try clear c5b0
                try clear c5b1
                try clear c6
                try clear c7
                try clear c7b0
                try clear c7b1
                try clear c7b2
                try clear c18
                try clear c18b0
                try clear c18b1
                try clear c19
                try clear p19
                try clear q19
                try clear hx19
                try clear qi19
                try clear c20
                try clear c20b0
                try clear c20b1
                try clear c22
                try clear c22b0
                try clear c22b1
                try clear c22b2
                try clear c23
                try clear c23b0
                try clear c23b1
                try clear c23b2
                try clear c24
                try clear c24b0
                try clear c24b1
                try clear c24b2
                try clear c25
                try clear c25b0
                try clear c25b1
                try clear c25b2
                try clear c26
                try clear c26b0
                try clear c26b1
                try clear c28
                try clear c28b0
                try clear c28b1
                try clear c28b2
                try clear c29
                try clear c29b0
                try clear c29b1
                try clear c29b2
                try clear c34
                try clear c34b0
                try clear c34b1
                try clear c38
                try clear c40
                try clear c40b0
                try clear c40b1
                try clear c40b2
                try clear c41
                try clear c41b0
                try clear c41b1
                try clear c41b2
                try clear hcz11_0
                try clear hcz11_1
                try clear hcz11_2
                try clear hcz11_3
                try clear hcz15_0
                try clear hcz15_1
                try clear hcz15_2
                try clear hcz15_3
                try clear hcz17_0
                try clear hcz17_1
                try clear hcz17_2
                try clear hcz17_3
                try clear hcz35_0
                try clear hcz35_1
                try clear hcz35_2
                try clear hcz35_3
                try clear hcz36_0
                try clear hcz36_1
                try clear hcz36_2
                try clear hcz36_3
                try clear hcz42_0
                try clear hcz42_1
                try clear hcz42_2
                try clear hcz42_3
                try clear hcz9_0
                try clear hcz9_1
                try clear hcz9_2
                try clear hcz9_3
                try clear hfz11_0
                try clear hfz11_1
                try clear hfz11_2
                try clear hfz11_3
                try clear hfz15_0
                try clear hfz15_1
                try clear hfz15_2
                try clear hfz15_3
                try clear hfz17_0
                try clear hfz17_1
                try clear hfz17_2
                try clear hfz17_3
                try clear hfz35_0
                try clear hfz35_1
                try clear hfz35_2
                try clear hfz35_3
                try clear hfz36_0
                try clear hfz36_1
                try clear hfz36_2
                try clear hfz36_3
                try clear hfz42_0
                try clear hfz42_1
                try clear hfz42_2
                try clear hfz42_3
                try clear hfz9_0
                try clear hfz9_1
                try clear hfz9_2
                try clear hfz9_3
                try clear hx194_0
                try clear hx194_1
                try clear hx194_2
                try clear hx194_3
                try clear hx196_0
                try clear hx196_1
                try clear hx196_2
                try clear hx196_3
                try clear hx198_0
                try clear hx198_1
                try clear hx198_2
                try clear hx198_3
                try clear p1
                try clear p19
                try clear p194
                try clear p196
                try clear p198
                try clear p2
                try clear q1
                try clear q19
                try clear q194
                try clear q196
                try clear q198
                obtain ⟨kq, x3_36, rfl, HA, HJ36, BK192, HB⟩ := hcut
                cases kq with
                | zero => exact absurd HA.out (by simp [impl_formatCond.j2])
                | succ kj36 =>
                  have H := HA.out
                  clear HA
                  simp only [impl_formatCond.j2] at H
                  replace H := Option.bind_eq_some_iff.mp H
                  obtain ⟨t201, A440, H⟩ := H
                  replace H : (if t201 = true then ((impl_FormatInt.f a0_2).bind fun t202 => (if 1 + t202.size ≤ 9223372036854775807 then (if x3_36.size + ((⟨#[32]⟩ : ByteArray) ++ t202).size ≤ 9223372036854775807 then (some (x3_36 ++ ((⟨#[32]⟩ : ByteArray) ++ t202))) else (none)) else (none))) else (some x3_36)) = some r := H
                  have A44 := Aside0.mk A440
                  clear A440
                  by_cases c45 : t201 = true
                  · subst c45
                    have H1 : ((impl_FormatInt.f a0_2).bind fun t202 => (if 1 + t202.size ≤ 9223372036854775807 then (if x3_36.size + ((⟨#[32]⟩ : ByteArray) ++ t202).size ≤ 9223372036854775807 then (some (x3_36 ++ ((⟨#[32]⟩ : ByteArray) ++ t202))) else (none)) else (none))) = some r := by rw [if_pos rfl] at H; exact H
                    clear H
                    have H := H1
                    clear H1
                    replace H := Option.bind_eq_some_iff.mp H
                    obtain ⟨t202, A460, H⟩ := H
                    replace H : (if 1 + t202.size ≤ 9223372036854775807 then (if x3_36.size + ((⟨#[32]⟩ : ByteArray) ++ t202).size ≤ 9223372036854775807 then (some (x3_36 ++ ((⟨#[32]⟩ : ByteArray) ++ t202))) else (none)) else (none)) = some r := H
                    have A46 := Aside0.mk A460
                    clear A460
                    by_cases c47 : 1 + t202.size ≤ 9223372036854775807
                    · rw [if_pos c47] at H
                      have c47b0 := eq_true c47
                      have c47b1 : decide (1 + t202.size ≤ 9223372036854775807) = true := decide_eq_true c47
                      try have c47b2 : (9223372036854775807 < 1 + t202.size) = False := eq_false (Nat.not_lt.2 c47)
                      by_cases c48 : x3_36.size + ((⟨#[32]⟩ : ByteArray) ++ t202).size ≤ 9223372036854775807
                      · rw [if_pos c48] at H
                        have c48b0 := eq_true c48
                        have c48b1 : decide (x3_36.size + ((⟨#[32]⟩ : ByteArray) ++ t202).size ≤ 9223372036854775807) = true := decide_eq_true c48
                        try have c48b2 : (9223372036854775807 < x3_36.size + ((⟨#[32]⟩ : ByteArray) ++ t202).size) = False := eq_false (Nat.not_lt.2 c48)
                        try have c48b3 : (9223372036854775807 < x3_36.size + (1 + t202.size)) = False := eq_false (Nat.not_lt.2 (show x3_36.size + (1 + t202.size) ≤ 9223372036854775807 from by have hh := c48; simp only [ByteArray.size_append] at hh; exact hh))
                        obtain rfl := Option.some.inj H
                        have hcz49_0 : wc.cell? ⟨gb192, 0, none⟩ = some (.int .i64 a0_0) := (blk_cell BK192.out 0).trans rfl
                        have hcz49_1 : wc.cell? ⟨gb192, 1, none⟩ = some (.int .i64 a0_1) := (blk_cell BK192.out 1).trans rfl
                        have hcz49_2 : wc.cell? ⟨gb192, 2, none⟩ = some (.int .i64 a0_2) := (blk_cell BK192.out 2).trans rfl
                        have hcz49_3 : wc.cell? ⟨gb192, 3, none⟩ = some (.slice A0_3 l0_3.length c0_3) := (blk_cell BK192.out 3).trans rfl
                        have hfz49_0 := blk_frozen BK192.out 0
                        have hfz49_1 := blk_frozen BK192.out 1
                        have hfz49_2 := blk_frozen BK192.out 2
                        have hfz49_3 := blk_frozen BK192.out 3
                        go_wp2_with (first | ((with_reducible refine gate_callee (f := 13) rfl ?_); refine goesL_ (some 56) rfl rfl Tryd.func13 (by kernel_rfl) rfl #[.int .i64 a0_0, .int .i64 2, .int .i64 5] rfl (by (try simp only [List.map_toArray, List.map_cons, List.map_nil]); first | done | rfl | (simp only [List.length_drop, List.length_take]; rfl)) ?_; (with_reducible refine (impl_InRange.calls a0_0 2 5 true _ A44.out).mono ?_); rintro e w' ⟨rfl, ⟨nd, rfl⟩⟩; refine ⟨_, rfl, ?_⟩) | ((with_reducible refine gate_callee (f := 26) rfl ?_); refine goesL_ (some 60) rfl rfl Tryd.func26 (by kernel_rfl) rfl #[.int .i64 a0_2] rfl (by (try simp only [List.map_toArray, List.map_cons, List.map_nil]); first | done | rfl | (simp only [List.length_drop, List.length_take]; rfl)) ?_; (with_reducible refine (impl_FormatInt.calls a0_2 t202 _ A46.out (HTab.out.below (by repeat (first | (with_reducible first | exact HB.out | apply below_alloc | apply pw_below_drewN | apply below_drew1 | refine below_set ?_ GE192.out) | exact HB.out)))).mono ?_); rintro e w50 ⟨rfl, hb⟩; refine ⟨_, rfl, ?_⟩; have n0_ := Aside0.mk (blk_below (g := gb192) (o := .cells #[.int .i64 a0_0, .int .i64 a0_1, .int .i64 a0_2, .slice A0_3 l0_3.length c0_3] 31 (0, 0)) (by (with_reducible repeat (first | refine blk_drewN ?_ _ | refine blk_drew ?_ | refine blk_alloc ?_ _)); exact BK192.out) hb); have n1_ := Aside0.mk (below_step (by repeat (first | (with_reducible first | exact HB.out | apply below_alloc | apply pw_below_drewN | apply below_drew1 | refine below_set ?_ GE192.out) | exact HB.out)) hb); clear BK192; clear HB; have BK192 := n0_; have HB := n1_; clear n0_ n1_; (try clear hb); (try clear hb2); (try clear hk); (try clear hi)))
                        go_ret
                        exact ⟨by first | rfl | (simp [errW_none, errW_some] <;> rfl) | (simp [*, errW_none, errW_some] <;> rfl), by repeat (first | (with_reducible first | exact HB.out | apply below_alloc | apply pw_below_drewN | apply below_drew1 | refine below_set ?_ GE192.out) | exact HB.out)⟩
                      · rw [if_neg c48] at H
                        exact absurd H (by simp)
                    · rw [if_neg c47] at H
                      exact absurd H (by simp)
                  · replace c45 := Bool.eq_false_iff.mpr c45
                    subst c45
                    have H1 : (some x3_36) = some r := by rw [if_neg (show ¬ (false = true) by decide)] at H; exact H
                    clear H
                    have H := H1
                    clear H1
                    obtain rfl := Option.some.inj H
                    have hcz51_0 : wc.cell? ⟨gb192, 0, none⟩ = some (.int .i64 a0_0) := (blk_cell BK192.out 0).trans rfl
                    have hcz51_1 : wc.cell? ⟨gb192, 1, none⟩ = some (.int .i64 a0_1) := (blk_cell BK192.out 1).trans rfl
                    have hcz51_2 : wc.cell? ⟨gb192, 2, none⟩ = some (.int .i64 a0_2) := (blk_cell BK192.out 2).trans rfl
                    have hcz51_3 : wc.cell? ⟨gb192, 3, none⟩ = some (.slice A0_3 l0_3.length c0_3) := (blk_cell BK192.out 3).trans rfl
                    have hfz51_0 := blk_frozen BK192.out 0
                    have hfz51_1 := blk_frozen BK192.out 1
                    have hfz51_2 := blk_frozen BK192.out 2
                    have hfz51_3 := blk_frozen BK192.out 3
                    go_wp2_with (first | ((with_reducible refine gate_callee (f := 13) rfl ?_); refine goesL_ (some 56) rfl rfl Tryd.func13 (by kernel_rfl) rfl #[.int .i64 a0_0, .int .i64 2, .int .i64 5] rfl (by (try simp only [List.map_toArray, List.map_cons, List.map_nil]); first | done | rfl | (simp only [List.length_drop, List.length_take]; rfl)) ?_; (with_reducible refine (impl_InRange.calls a0_0 2 5 false _ A44.out).mono ?_); rintro e w' ⟨rfl, ⟨nd, rfl⟩⟩; refine ⟨_, rfl, ?_⟩))
                    go_ret
                    exact ⟨by first | rfl | (simp [errW_none, errW_some] <;> rfl) | (simp [*, errW_none, errW_some] <;> rfl), by repeat (first | (with_reducible first | exact HB.out | apply below_alloc | apply pw_below_drewN | apply below_drew1 | refine below_set ?_ GE192.out) | exact HB.out)⟩

end Go.Proofs.YtnjobmbjeknlbaaDoor.XFnExactFormatCond
