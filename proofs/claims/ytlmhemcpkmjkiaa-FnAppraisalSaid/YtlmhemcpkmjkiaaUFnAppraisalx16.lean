/- Written by this session's own program (wip/xprint, which runs over the kit's print): what the functions that the law reaches come to, each proved; and the law's row. Conditions: none. -/
import Derived.Test.YtlmhemcpkmjkiaaUFnAppraisalSq
import Derived.Test.YtlmhemcpkmjkiaaUFnAppraisalx0
import Derived.Test.YtlmhemcpkmjkiaaUFnAppraisalx2
import Derived.Test.YtlmhemcpkmjkiaaUFnAppraisalx3
import Derived.Test.YtlmhemcpkmjkiaaUFnAppraisalx5
import Derived.Test.YtlmhemcpkmjkiaaUFnAppraisalx6
import Derived.Test.YtlmhemcpkmjkiaaUFnAppraisalx7
import Derived.Test.YtlmhemcpkmjkiaaUFnAppraisalx8
import Derived.Test.YtlmhemcpkmjkiaaUFnAppraisalx11
import Derived.Test.YtlmhemcpkmjkiaaUFnAppraisalx14
import Derived.Test.YtlmhemcpkmjkiaaUFnAppraisalx15
namespace Go.Proofs.Ytlmhemcpkmjkiaa.XFnAppraisal
open Go.RowKit Go.Proofs.YtlmhemcpkmjkiaaW.PrintWords Go.Proofs.YtlmhemcpkmjkiaaW.PrintLast Go.Proofs.YtlmhemcpkmjkiaaW.PrintMore Go.Proofs.YtlmhemcpkmjkiaaSq
attribute [local go_sem] max2_int min2_int max_two min_two max_three min_three max_four min_four   -- for this text's walks alone
set_option linter.unusedVariables false
set_option linter.unusedSimpArgs false

/-! ### laws_FnAppraisal: function 13 -/
mutual
def laws_FnAppraisal.j0 : Nat → List Int → List Int → Int → Bool → Int → List Int → List Int → List Int → Option (Bool)
 | 0, _, _, _, _, _, _, _, _ => none
 | k + 1, x0, x4, x5, x6, x556000, x556001, x556002, x556003 => laws_FnAppraisal.l0 k x0 x4 x5 x6 0 x556000 x556001 x556002 x556003
def laws_FnAppraisal.l0 : Nat → List Int → List Int → Int → Bool → Int → Int → List Int → List Int → List Int → Option (Bool)
 | 0, _, _, _, _, _, _, _, _, _ => none
 | k + 1, x0, x4, x5, x6, x7, x556000, x556001, x556002, x556003 => if x7 < (x4.length : Int) then (if 0 ≤ x7 then ((impl_AppraiseOne.f k x556000 x556001 x556002 x556003 (rd x4 x7)).bind fun t558 => (if t558 < x5 then (some false) else (if x6 = true then (laws_FnAppraisal.l0 k x0 x4 x5 true (wrap64 (x7 + 1)) x556000 x556001 x556002 x556003) else (laws_FnAppraisal.l0 k x0 x4 x5 (t558 == x5) (wrap64 (x7 + 1)) x556000 x556001 x556002 x556003)))) else (none)) else ((spec_DrawIsStricter.f k x0).bind fun bt559 => (if x6 = true then ((impl_IsStricter.f k bt559.1 bt559.2.1 bt559.2.2.1 bt559.2.2.2.1 bt559.2.2.2.2.1 bt559.2.2.2.2.2.1 bt559.2.2.2.2.2.2.1 bt559.2.2.2.2.2.2.2).bind fun t581 => (if t581 = true then ((impl_IsLog.f x4).bind fun t582 => (if t582 = true then ((impl_AppraiseLog.f k bt559.1 bt559.2.1 bt559.2.2.1 bt559.2.2.2.1 x4).bind fun t583 => ((impl_AppraiseLog.f k bt559.2.2.2.2.1 bt559.2.2.2.2.2.1 bt559.2.2.2.2.2.2.1 bt559.2.2.2.2.2.2.2 x4).bind fun t584 => (laws_FnAppraisal.j2 k x0 (decide (t583 > t584)) bt559.1 bt559.2.1 bt559.2.2.1 bt559.2.2.2.1 bt559.2.2.2.2.1 bt559.2.2.2.2.2.1 bt559.2.2.2.2.2.2.1 bt559.2.2.2.2.2.2.2))) else (laws_FnAppraisal.j2 k x0 false bt559.1 bt559.2.1 bt559.2.2.1 bt559.2.2.2.1 bt559.2.2.2.2.1 bt559.2.2.2.2.2.1 bt559.2.2.2.2.2.2.1 bt559.2.2.2.2.2.2.2))) else (laws_FnAppraisal.j2 k x0 false bt559.1 bt559.2.1 bt559.2.2.1 bt559.2.2.2.1 bt559.2.2.2.2.1 bt559.2.2.2.2.2.1 bt559.2.2.2.2.2.2.1 bt559.2.2.2.2.2.2.2))) else (laws_FnAppraisal.j2 k x0 true bt559.1 bt559.2.1 bt559.2.2.1 bt559.2.2.2.1 bt559.2.2.2.2.1 bt559.2.2.2.2.2.1 bt559.2.2.2.2.2.2.1 bt559.2.2.2.2.2.2.2)))
def laws_FnAppraisal.j2 : Nat → List Int → Bool → Int → List Int → List Int → List Int → Int → List Int → List Int → List Int → Option (Bool)
 | 0, _, _, _, _, _, _, _, _, _, _ => none
 | k + 1, x0, x84, x580000, x580001, x580002, x580003, x581000, x581001, x581002, x581003 => if x84 = true then (some false) else ((spec_DrawHealthFact.f k x0).bind fun bt585 => ((impl_HealthFact.f k bt585.1 bt585.2.1 bt585.2.2.1 bt585.2.2.2.1 bt585.2.2.2.2.1 bt585.2.2.2.2.2.1 bt585.2.2.2.2.2.2.1 bt585.2.2.2.2.2.2.2.1 bt585.2.2.2.2.2.2.2.2.1 bt585.2.2.2.2.2.2.2.2.2.1 bt585.2.2.2.2.2.2.2.2.2.2.1 bt585.2.2.2.2.2.2.2.2.2.2.2.1 bt585.2.2.2.2.2.2.2.2.2.2.2.2.1 bt585.2.2.2.2.2.2.2.2.2.2.2.2.2).bind fun bt609 => (if bt609.2.2.2.2.2.2 = true then ((impl_AppraiseLog.f k bt585.1 bt585.2.1 bt585.2.2.1 bt585.2.2.2.1 bt585.2.2.2.2.2.2.2.2.2.2.1).bind fun t617 => (if bt609.2.2.1 = t617 then (if bt609.2.1 = bt585.2.2.2.2.2.1 then ((impl_HoldsAt.f bt609.1 bt609.2.1 bt609.2.2.1 bt609.2.2.2.1 bt609.2.2.2.2.1 bt609.2.2.2.2.2.1 bt585.2.2.2.2.2.2.2.2.2.2.2.2.1 0).bind fun t618 => (laws_FnAppraisal.j3 k (!t618) x580000 x580001 x580002 x580003 x581000 x581001 x581002 x581003)) else (laws_FnAppraisal.j3 k true x580000 x580001 x580002 x580003 x581000 x581001 x581002 x581003)) else (laws_FnAppraisal.j3 k true x580000 x580001 x580002 x580003 x581000 x581001 x581002 x581003))) else (laws_FnAppraisal.j3 k false x580000 x580001 x580002 x580003 x581000 x581001 x581002 x581003))))
def laws_FnAppraisal.j3 : Nat → Bool → Int → List Int → List Int → List Int → Int → List Int → List Int → List Int → Option (Bool)
 | 0, _, _, _, _, _, _, _, _, _ => none
 | k + 1, x127, x580000, x580001, x580002, x580003, x581000, x581001, x581002, x581003 => if x127 = true then (some false) else ((impl_ReplaceAllowed.f k x580000 x580001 x580002 x580003 x581000 x581001 x581002 x581003).bind fun bt619 => ((impl_IsAllowed.f k x581000 x581001 x581002 x581003).bind fun t631 => (if t631 = true then (if (bt619.2.2.2.2 == (decide (x581000 > x580000))) = true then (some (decide (bt619.1 ≥ x580000))) else (some false)) else (if (bt619.2.2.2.2 == false) = true then (some (decide (bt619.1 ≥ x580000))) else (some false)))))
end
def laws_FnAppraisal.f (k : Nat) (l0 : List Int) : Option (Bool) := (laws_big.f l0).bind fun t541 => (if t541 = true then (some true) else ((spec_DrawAppraiseLog.f k l0).bind fun bt542 => ((impl_AppraiseLog.f k bt542.1 bt542.2.1 bt542.2.2.1 bt542.2.2.2.1 bt542.2.2.2.2).bind fun t556 => (if (bt542.2.2.2.2.length : Int) = 0 then (laws_FnAppraisal.j0 k l0 bt542.2.2.2.2 t556 (t556 == 3) bt542.1 bt542.2.1 bt542.2.2.1 bt542.2.2.2.1) else (laws_FnAppraisal.j0 k l0 bt542.2.2.2.2 t556 false bt542.1 bt542.2.1 bt542.2.2.1 bt542.2.2.2.1)))))
def laws_FnAppraisal.T14 : Bool × List (List Nat × List Nat) := (true, [([], []), ([0], [0]), ([1], [1]), ([2], [2]), ([2], [2]), ([3, 4, 2, 2], [2, 3, 4]), ([5, 5, 2], [2, 5]), ([6], [6]), ([7, 6, 6], [6, 7]), ([6, 8, 2], [2, 6, 8]), ([9, 8, 2], [2, 9]), ([10], [10]), ([10], [10]), ([11, 12, 10, 10], [10, 11, 12]), ([10], [10]), ([10], [10]), ([14, 15, 13, 10], [10, 14, 15]), ([13, 16, 10], [10, 13, 16]), ([10, 17, 2], [2, 10, 17]), ([2, 18], [2, 18])])
def laws_FnAppraisal.B14 : List Nat := [0, 1, 3, 7, 7, 31, 63, 127, 255, 511, 1023, 2047, 2047, 8191, 2047, 2047, 65535, 131071, 262143, 524287]
theorem laws_FnAppraisal.tab14 : rtab .any (opsOf Try.f13 14) = laws_FnAppraisal.T14 := by kernel_rfl
theorem laws_FnAppraisal.bits14 : waitsOk laws_FnAppraisal.T14.2 laws_FnAppraisal.B14 = true := by kernel_rfl
def laws_FnAppraisal.T18 : Bool × List (List Nat × List Nat) := (true, [([], []), ([0], [0]), ([1], [1]), ([2, 1], [1, 2]), ([1], [1]), ([1], [1]), ([4, 5, 1, 1], [1, 4, 5]), ([3, 6, 1], [1, 3, 6]), ([7, 6, 1], [1, 7]), ([8], [8]), ([9, 8], [8, 9]), ([8], [8]), ([11, 8], [8, 11]), ([10, 12, 8], [8, 10, 12]), ([8, 13, 1], [1, 8, 13]), ([14, 8, 1], [1, 14]), ([15], [15]), ([15], [15]), ([16, 17, 15, 15], [15, 16, 17]), ([18, 15], [15, 18]), ([15, 19, 1], [1, 15, 19]), ([1, 20], [1, 20])])
def laws_FnAppraisal.B18 : List Nat := [0, 1, 3, 7, 3, 3, 51, 127, 255, 511, 1023, 511, 2559, 8191, 16383, 32767, 65535, 65535, 262143, 524287, 1048575, 2097151]
theorem laws_FnAppraisal.tab18 : rtab .any (opsOf Try.f13 18) = laws_FnAppraisal.T18 := by kernel_rfl
theorem laws_FnAppraisal.bits18 : waitsOk laws_FnAppraisal.T18.2 laws_FnAppraisal.B18 = true := by kernel_rfl
theorem z13_0 {Q : Prop} (g : Q := by rw [hg]; exact (below_size sqh)) : Q := g
theorem z13_1 {Q : Prop} (g : Q := by rw [hg]; exact Nat.ne_of_lt (blk_lt (bo BK555))) : Q := g
theorem z13_2 {Q : Prop} (g : Q := by rw [hg]; exact Nat.ne_of_gt (blk_lt (bo BK555))) : Q := g
theorem z13_3 {Q : Prop} (g : Q := by rw [hg]; exact Nat.ne_of_lt (blk_lt (bo BK579))) : Q := g
theorem z13_4 {Q : Prop} (g : Q := by rw [hg]; exact Nat.ne_of_gt (blk_lt (bo BK579))) : Q := g
set_option maxHeartbeats 8000000 in
set_option maxRecDepth 100000 in
theorem laws_FnAppraisal.calls (k : Nat) (A0 : Option Addr) (c0 : Nat) (l0 : List Int) (r : Bool) (w : World) (hr0 : Kd.C (Kd.int .u8) w A0 l0.length l0) (hc0 : l0.length ≤ c0) (h : laws_FnAppraisal.f k l0 = some r) (hr_ : Aside0 (r = true)) :
  Calls Try.prog 13 #[.slice A0 l0.length c0] w fun e w' => e = .returned (.bool r) ∧ Below w.heap.size w w' := by
 have hu33 := Try.underlying33
 have hu45 := Try.underlying45
 have hu83 := Try.underlying83
 have HR0 := Aside0.mk hr0
 have HC0 := Aside0.mk hc0
 clear hr0 hc0
 have HB := Aside0.mk (Below.refl w.heap.size w)
 have H : ((laws_big.f l0).bind fun t541 => (if t541 = true then (some true) else ((spec_DrawAppraiseLog.f k l0).bind fun bt542 => ((impl_AppraiseLog.f k bt542.1 bt542.2.1 bt542.2.2.1 bt542.2.2.2.1 bt542.2.2.2.2).bind fun t556 => (if (bt542.2.2.2.2.length : Int) = 0 then (laws_FnAppraisal.j0 k l0 bt542.2.2.2.2 t556 (t556 == 3) bt542.1 bt542.2.1 bt542.2.2.1 bt542.2.2.2.1) else (laws_FnAppraisal.j0 k l0 bt542.2.2.2.2 t556 false bt542.1 bt542.2.1 bt542.2.2.1 bt542.2.2.2.1)))))) = some r := h
 clear h
 obtain ⟨t541, A2, H⟩ := bA H
 by_cases c3 : t541 = true
 ·subst c3
  replace H := iT H
  obtain rfl := Option.some.inj H
  go_enter Try.func13, Try.ntmps13
  go_wp2_with (first | ((with_reducible refine gate_callee (f := 43) rfl ?_); refine goesL_ (some 23) rfl rfl Try.func43 sqk rfl #[.slice A0 l0.length c0] rfl sqm ?_; (with_reducible refine (laws_big.calls _ _ l0 true _ ?side1 ?side2 A2.out).mono ?_); (case side1 => repeat (first | exact HR0.out | (with_reducible refine Kd.C_alloc ?_ _) | (with_reducible refine Kd.C_drewN ?_ _) | (with_reducible refine Kd.C_drew ?_))); (case side2 => exact HC0.out); rintro e w' ⟨rfl, ⟨nd, rfl⟩⟩; refine ⟨_, rfl, ?_⟩))
  go_ret
  exact ⟨sqe, sqh⟩
 ·replace c3 := Bool.eq_false_iff.mpr c3
  subst c3
  replace H := iF H
  obtain ⟨⟨t542, t543, t546, t549, t552⟩, A4, H⟩ := bA H
  dsimp only at H
  obtain ⟨t556, A5, H⟩ := bA H
  have HC6 := Aside0.mk H
  clear H
  go_enter Try.func13, Try.ntmps13
  go_upto_region 5 with (first | ((with_reducible refine gate_callee (f := 43) rfl ?_); refine goesL_ (some 23) rfl rfl Try.func43 sqk rfl #[.slice A0 l0.length c0] rfl sqm ?_; (with_reducible refine (laws_big.calls _ _ l0 false _ ?side1 ?side2 A2.out).mono ?_); (case side1 => repeat (first | exact HR0.out | (with_reducible refine Kd.C_alloc ?_ _) | (with_reducible refine Kd.C_drewN ?_ _) | (with_reducible refine Kd.C_drew ?_))); (case side2 => exact HC0.out); rintro e w' ⟨rfl, ⟨nd, rfl⟩⟩; refine ⟨_, rfl, ?_⟩) | ((with_reducible refine gate_callee (f := 58) rfl ?_); refine goesL_ (some 26) rfl rfl Try.func58 sqk rfl #[.slice A0 l0.length c0] rfl sqm ?_; (with_reducible refine (spec_DrawAppraiseLog.calls k _ _ l0 t542 t543 t546 t549 t552 _ ?side1 ?side2 A4.out).mono ?_); (case side1 => repeat (first | exact HR0.out | (with_reducible refine Kd.C_alloc ?_ _) | (with_reducible refine Kd.C_drewN ?_ _) | (with_reducible refine Kd.C_drew ?_))); (case side2 => exact HC0.out); rintro e w7 ⟨v544, v547, v550, v553, rfl, ho0, ho1, ho2, ho3, hb⟩; refine ⟨_, rfl, ?_⟩; have HO545 := Aside0.mk (Kd.R_mono (ok' := fun _ => True) (Kd.R_lower ho0 (below_size sqh)) (fun _ _ => trivial)); have HO548 := Aside0.mk (Kd.R_mono (ok' := fun _ => True) (Kd.R_lower ho1 (below_size sqh)) (fun _ _ => trivial)); have HO551 := Aside0.mk (Kd.R_mono (ok' := fun _ => True) (Kd.R_lower ho2 (below_size sqh)) (fun _ _ => trivial)); have HO554 := Aside0.mk (Kd.R_mono (ok' := fun _ => True) (Kd.R_lower ho3 (below_size sqh)) (fun _ _ => trivial)); replace HB := Aside0.mk (below_step sqh hb); (try clear hb); (try clear ho0); (try clear ho1); (try clear ho2); (try clear ho3)) | ((with_reducible refine gate_dst (N := 3) rfl ?_); refine bx (N := 3) (cs := #[.int .i64 0, .slice none 0 0, .slice none 0 0, .slice none 0 0]) (t := 33) ?_; intro gb555 hg w8 hbox hb; replace HO545 := Aside0.mk (Kd.R_below (sqq HO545.out) hb); replace HO548 := Aside0.mk (Kd.R_below (sqq HO548.out) hb); replace HO551 := Aside0.mk (Kd.R_below (sqq HO551.out) hb); replace HO554 := Aside0.mk (Kd.R_below (sqq HO554.out) hb); have BK555 := Aside0.mk (hbox); have GW555 := Aside0.mk ((z13_0 : w.heap.size ≤ gb555)); have GE555 := Aside0.mk ((z13_0 : w.heap.size ≤ gb555)); replace HB := Aside0.mk (below_step sqh hb); clear hb hbox hg; obtain ⟨hcz9_0, hcz9_1, hcz9_2, hcz9_3, hfz9_0, hfz9_1, hfz9_2, hfz9_3⟩ := sd4 BK555.out; obtain ⟨Ao10, co10, eo10⟩ := Kd.R_slice HO545.out; subst eo10; obtain ⟨Ao11, co11, eo11⟩ := Kd.R_slice HO548.out; subst eo11; obtain ⟨Ao12, co12, eo12⟩ := Kd.R_slice HO551.out; subst eo12; obtain ⟨Ao13, co13, eo13⟩ := Kd.R_slice HO554.out; subst eo13) | ((with_reducible refine gate_callee (f := 29) rfl ?_); refine goesL_ (some 31) rfl rfl Try.func29 sqk rfl #[.agg #[.int .i64 t542, .slice Ao10 t543.length co10, .slice Ao11 t546.length co11, .slice Ao12 t549.length co12], .slice Ao13 t552.length co13] rfl sqm ?_; (with_reducible refine (impl_AppraiseLog.calls k t542 _ _ t543 _ _ t546 _ _ t549 _ _ t552 t556 _ ?side1 ?side2 ?side3 ?side4 ?side5 ?side6 ?side7 ?side8 A5.out).mono ?_); (case side1 => refine (Kd.R_reads' (e := 3) (base := w.heap.size) (ok := fun _ => True) (n := t543.length) (c := co10) ?_).2.2; exact (sqR1 HO545 BK555)); (case side2 => exact (Kd.R_reads' HO545.out).2.1); (case side3 => refine (Kd.R_reads' (e := 3) (base := w.heap.size) (ok := fun _ => True) (n := t546.length) (c := co11) ?_).2.2; exact (sqR1 HO548 BK555)); (case side4 => exact (Kd.R_reads' HO548.out).2.1); (case side5 => refine (Kd.R_reads' (e := 3) (base := w.heap.size) (ok := fun _ => True) (n := t549.length) (c := co12) ?_).2.2; exact (sqR1 HO551 BK555)); (case side6 => exact (Kd.R_reads' HO551.out).2.1); (case side7 => refine (Kd.R_reads' (e := 3) (base := w.heap.size) (ok := fun _ => True) (n := t552.length) (c := co13) ?_).2.2; exact (sqR1 HO554 BK555)); (case side8 => exact (Kd.R_reads' HO554.out).2.1); rintro e w14 ⟨rfl, hb⟩; refine ⟨_, rfl, ?_⟩; replace HO545 := Aside0.mk (Kd.R_below (sqR1 HO545 BK555) hb); replace HO548 := Aside0.mk (Kd.R_below (sqR1 HO548 BK555) hb); replace HO551 := Aside0.mk (Kd.R_below (sqR1 HO551 BK555) hb); replace HO554 := Aside0.mk (Kd.R_below (sqR1 HO554 BK555) hb); replace BK555 := Aside0.mk (blk_below (g := gb555) (o := .cells #[.int .i64 t542, .slice Ao10 t543.length co10, .slice Ao11 t546.length co11, .slice Ao12 t549.length co12] 33 (0, 0)) (bp BK555) hb); replace HB := Aside0.mk (below_step sqh hb); (try clear hb)))
  (try simp only [Act.put, List.setIfInBounds_toArray, List.set_cons_zero, List.set_cons_succ])
  go_cut [6] (fun v6 wc => ∃ (kq : Nat) (x6_5 : Bool), v6 = .bool x6_5 ∧ Aside0 (laws_FnAppraisal.j0 kq l0 t552 t556 x6_5 t542 t543 t546 t549 = some r) ∧ Aside0 (kq ≤ k) ∧ Aside0 (Kd.R (Kd.int .i64) 3 wc w.heap.size (fun _ => True) (.slice Ao13 t552.length co13) t552) ∧ Aside0 (Kd.R (Kd.int .i64) 3 wc w.heap.size (fun _ => True) (.slice Ao10 t543.length co10) t543) ∧ Aside0 (Kd.R (Kd.int .i64) 3 wc w.heap.size (fun _ => True) (.slice Ao11 t546.length co11) t546) ∧ Aside0 (Kd.R (Kd.int .i64) 3 wc w.heap.size (fun _ => True) (.slice Ao12 t549.length co12) t549) ∧ Aside0 (wc.heap[gb555]? = some (.cells #[.int .i64 t542, (.slice Ao10 t543.length co10), (.slice Ao11 t546.length co11), (.slice Ao12 t549.length co12)] 33 (0, 0))) ∧ Aside0 (Below w.heap.size w wc))
  case first =>
   have H := HC6.out
   clear HC6
   by_cases c15 : (t552.length : Int) = 0
   ·rw [if_pos c15] at H
    have c15b0 : ((t552.length : Int) == 0) = true := beq_iff_eq.mpr c15
    have c15b1 : ((t552.length : Int) != 0) = false := bne_eq_false_iff_eq.mpr c15
    clear c15
    (first | rw [c15b0] | (simp only [i64_w, i32_w]; rw [c15b0]) | skip)
    have H' := Aside0.mk H
    clear H
    go_wp2
    go_meet
    case rel => exact ⟨_, ((t556 == 3)), sqr, H', ⟨sqo⟩, ⟨by (with_reducible repeat (first | apply Kd.R_alloc | apply Kd.R_drewN | apply Kd.R_drew)); exact HO554.out⟩, ⟨sqR0 HO545⟩, ⟨sqR0 HO548⟩, ⟨sqR0 HO551⟩, ⟨sqb BK555.out⟩, ⟨sqh⟩⟩
   ·rw [if_neg c15] at H
    have c15b0 : ((t552.length : Int) == 0) = false := beq_eq_false_iff_ne.mpr c15
    have c15b1 : ((t552.length : Int) != 0) = true := bne_iff_ne.mpr c15
    have c15b2 : ¬ (t552 = []) := fun h_ => c15 (by rw [h_]; rfl)
    (first | rw [c15b0] | (simp only [i64_w, i32_w]; rw [c15b0]) | skip)
    have H' := Aside0.mk H
    clear H
    go_wp2
    go_meet
    case rel => exact ⟨_, (false), sqr, H', ⟨sqo⟩, ⟨by (with_reducible repeat (first | apply Kd.R_alloc | apply Kd.R_drewN | apply Kd.R_drew)); exact HO554.out⟩, ⟨sqR0 HO545⟩, ⟨sqR0 HO548⟩, ⟨sqR0 HO551⟩, ⟨sqb BK555.out⟩, ⟨sqh⟩⟩
  case rest =>
   clear HC6; try clear c1; try clear c2; try clear p2; try clear c3; try clear c4; try clear c5; try clear c13; try clear c15; try clear c15b0; try clear c15b1; try clear c15b2; try clear hcz9_0; try clear hcz9_1; try clear hcz9_2; try clear hcz9_3; try clear hfz9_0; try clear hfz9_1; try clear hfz9_2; try clear hfz9_3
   obtain ⟨kq, x6_5, rfl, HA, HJ5, HO_4, HO_556001, HO_556002, HO_556003, BK555, HB⟩ := hcut
   cases kq with
   | zero => exact absurd HA.out (by simp [laws_FnAppraisal.j0])
   | succ kj5 =>
    have H := HA.out
    clear HA
    simp only [laws_FnAppraisal.j0] at H
    have H' := Aside0.mk H
    clear H
    go_wp2
    go_loopg [6, 7] kj5 (fun kq v6 v7 w' => ∃ (x6_2 : Bool) (x7_2 : Int), v6 = .bool x6_2 ∧ v7 = .int .i64 x7_2 ∧ Aside0 (laws_FnAppraisal.l0 kq l0 t552 t556 x6_2 x7_2 t542 t543 t546 t549 = some r) ∧ Aside0 (kq ≤ kj5) ∧ Aside0 (Kd.R (Kd.int .i64) 3 w' w.heap.size (fun _ => True) (.slice Ao13 t552.length co13) t552) ∧ Aside0 (Kd.R (Kd.int .i64) 3 w' w.heap.size (fun _ => True) (.slice Ao10 t543.length co10) t543) ∧ Aside0 (Kd.R (Kd.int .i64) 3 w' w.heap.size (fun _ => True) (.slice Ao11 t546.length co11) t546) ∧ Aside0 (Kd.R (Kd.int .i64) 3 w' w.heap.size (fun _ => True) (.slice Ao12 t549.length co12) t549) ∧ Aside0 (w'.heap[gb555]? = some (.cells #[.int .i64 t542, (.slice Ao10 t543.length co10), (.slice Ao11 t546.length co11), (.slice Ao12 t549.length co12)] 33 (0, 0))) ∧ Aside0 (Below w.heap.size w w'))
    case atStart => exact ⟨(x6_5), (0), sqr, sqr, H', ⟨Nat.le_refl _⟩, ⟨by (with_reducible repeat (first | apply Kd.R_alloc | apply Kd.R_drewN | apply Kd.R_drew)); exact HO_4.out⟩, ⟨by (with_reducible repeat (first | apply Kd.R_alloc | apply Kd.R_drewN | apply Kd.R_drew)); exact HO_556001.out⟩, ⟨by (with_reducible repeat (first | apply Kd.R_alloc | apply Kd.R_drewN | apply Kd.R_drew)); exact HO_556002.out⟩, ⟨by (with_reducible repeat (first | apply Kd.R_alloc | apply Kd.R_drewN | apply Kd.R_drew)); exact HO_556003.out⟩, ⟨sqb BK555.out⟩, ⟨sqh⟩⟩
    case round =>
     clear H'; try clear c1; try clear c2; try clear p2; try clear c3; try clear c4; try clear c5; try clear c13; try clear c15; try clear c15b0; try clear c15b1; try clear c15b2; try clear hcz9_0; try clear hcz9_1; try clear hcz9_2; try clear hcz9_3; try clear hfz9_0; try clear hfz9_1; try clear hfz9_2; try clear hfz9_3; try clear p2
     obtain ⟨x6_2, x7_2, rfl, rfl, HA, HK2, HO_4, HO_556001, HO_556002, HO_556003, BK555, HB⟩ := hrel
     cases gk with
     | zero => exact absurd HA.out (by simp [laws_FnAppraisal.l0])
     | succ k2 =>
      have H := HA.out
      clear HA
      simp only [laws_FnAppraisal.l0] at H
      by_cases c16 : x7_2 < (t552.length : Int)
      ·rw [if_pos c16] at H
       have c16b0 : decide (x7_2 < (t552.length : Int)) = true := decide_eq_true c16
       clear c16
       by_cases c17 : 0 ≤ x7_2
       ·rw [if_pos c17] at H
        have c17b0 : decide (0 ≤ x7_2) = true := decide_eq_true c17
        clear c17
        obtain ⟨t558, A18, H⟩ := bA H
        by_cases c19 : t558 < t556
        ·rw [if_pos c19] at H
         have c19b0 : decide (t558 < t556) = true := decide_eq_true c19
         clear c19
         exact absurd ((Option.some.inj H).trans hr_.out) (by decide)
        ·rw [if_neg c19] at H
         have c19b0 : decide (t558 < t556) = false := decide_eq_false c19
         clear c19
         by_cases c20 : x6_2 = true
         ·subst c20
          replace H := iT H
          have H' := Aside0.mk H
          clear H
          try go_wp2
          replace HO_4 := Aside0.mk (Kd.R_drew HO_4.out)
          replace HO_556001 := Aside0.mk (Kd.R_drew HO_556001.out)
          replace HO_556002 := Aside0.mk (Kd.R_drew HO_556002.out)
          replace HO_556003 := Aside0.mk (Kd.R_drew HO_556003.out)
          replace BK555 := Aside0.mk (blk_drew BK555.out)
          replace HB := Aside0.mk (below_drew1 HB.out)
          have p557 : 0 ≤ (x7_2 : Int) := of_decide_eq_true sqs
          have q557 : x7_2 < (t552.length : Int) := of_decide_eq_true sqs
          obtain ⟨ad557, e557, hx557_0⟩ := Kd.at_int (Kd.R_reads' HO_4.out).2.2 x7_2 p557 q557
          cases e557
          replace p557 := eq_true p557
          replace q557 := eq_true q557
          refine start_ (n := 7) (S := fun w' => w'.cell? ⟨gb555, 0, none⟩ = some (.int .i64 t542) ∧ w'.cell? ⟨gb555, 1, none⟩ = some (.slice Ao10 t543.length co10) ∧ w'.cell? ⟨gb555, 2, none⟩ = some (.slice Ao11 t546.length co11) ∧ w'.cell? ⟨gb555, 3, none⟩ = some (.slice Ao12 t549.length co12) ∧ w'.cell? (ad557.add (x7_2).toNat) = some (.int .i64 (rd t552 x7_2))) (ds := []) #[false, false, false, false, false, false, false] sqk rfl rfl (sa4 BK555.out hx557_0) (fun hHeld => ?_)
          generalize wr.drew = w21 at HO_4 HO_556001 HO_556002 HO_556003 BK555 HB hx557_0 hHeld ⊢
          refine pu 1 46 ?_; refine pu 2 47 ?_; refine pu 3 48 ?_; refine ta 0 45 ?_; refine ta 4 49 ?_
          refine on 5 (some 50) (fun K hK => ?_)
          refine goes_ Try.func23 sqk rfl #[.agg #[.int .i64 t542, .slice Ao10 t543.length co10, .slice Ao11 t546.length co11, .slice Ao12 t549.length co12], .int .i64 (rd t552 x7_2)] (by rfl) rfl rfl sqm ?_
          with_reducible refine (impl_AppraiseOne.calls k2 t542 _ _ t543 _ _ t546 _ _ t549 (rd t552 x7_2) t558 _ ?side1 ?side2 ?side3 ?side4 ?side5 ?side6 A18.out).mono ?_
          (case side1 => repeat (first | exact (Kd.R_reads' HO_556001.out).2.2 | (with_reducible refine Kd.C_alloc ?_ _) | (with_reducible refine Kd.C_drewN ?_ _) | (with_reducible refine Kd.C_drew ?_)))
          (case side2 => exact (Kd.R_reads' HO_556001.out).2.1)
          (case side3 => repeat (first | exact (Kd.R_reads' HO_556002.out).2.2 | (with_reducible refine Kd.C_alloc ?_ _) | (with_reducible refine Kd.C_drewN ?_ _) | (with_reducible refine Kd.C_drew ?_)))
          (case side4 => exact (Kd.R_reads' HO_556002.out).2.1)
          (case side5 => repeat (first | exact (Kd.R_reads' HO_556003.out).2.2 | (with_reducible refine Kd.C_alloc ?_ _) | (with_reducible refine Kd.C_drewN ?_ _) | (with_reducible refine Kd.C_drew ?_)))
          (case side6 => exact (Kd.R_reads' HO_556003.out).2.1)
          rintro e w22 ⟨rfl, hb⟩
          have HS4_ := (hb.cell (World.block_lt_of_cell? _ _ (hHeld.2.2.2.2))).trans (hHeld.2.2.2.2)
          refine ⟨_, rfl, ?_⟩
          replace HO_4 := Aside0.mk (Kd.R_below (sqq HO_4.out) hb)
          replace HO_556001 := Aside0.mk (Kd.R_below (sqq HO_556001.out) hb)
          replace HO_556002 := Aside0.mk (Kd.R_below (sqq HO_556002.out) hb)
          replace HO_556003 := Aside0.mk (Kd.R_below (sqq HO_556003.out) hb)
          replace BK555 := Aside0.mk (blk_below (bo BK555) hb)
          replace HB := Aside0.mk (below_step sqh hb)
          (try clear hb)
          (try clear hb2)
          (try clear hk)
          (try clear hi)
          refine hK.out _ _ (sa4 BK555.out HS4_) (fun hHeld => ?_)
          clear hK K; refine no 50 ?_; refine pu 6 8 ?_
          refine dn ?_
          try go_wp2
          go_roundg k2
          case measure => have := HJ5.out; have := HK2.out; omega
          case rel => exact ⟨(true), (wrap64 (x7_2 + 1)), sqr, sqr, H', ⟨by have := HJ5.out; have := HK2.out; omega⟩, ⟨by (with_reducible repeat (first | apply Kd.R_alloc | apply Kd.R_drewN | apply Kd.R_drew)); exact HO_4.out⟩, ⟨by (with_reducible repeat (first | apply Kd.R_alloc | apply Kd.R_drewN | apply Kd.R_drew)); exact HO_556001.out⟩, ⟨by (with_reducible repeat (first | apply Kd.R_alloc | apply Kd.R_drewN | apply Kd.R_drew)); exact HO_556002.out⟩, ⟨by (with_reducible repeat (first | apply Kd.R_alloc | apply Kd.R_drewN | apply Kd.R_drew)); exact HO_556003.out⟩, ⟨sqb BK555.out⟩, ⟨sqh⟩⟩
         ·replace c20 := Bool.eq_false_iff.mpr c20
          subst c20
          replace H := iF H
          have H' := Aside0.mk H
          clear H
          try go_wp2
          replace HO_4 := Aside0.mk (Kd.R_drew HO_4.out)
          replace HO_556001 := Aside0.mk (Kd.R_drew HO_556001.out)
          replace HO_556002 := Aside0.mk (Kd.R_drew HO_556002.out)
          replace HO_556003 := Aside0.mk (Kd.R_drew HO_556003.out)
          replace BK555 := Aside0.mk (blk_drew BK555.out)
          replace HB := Aside0.mk (below_drew1 HB.out)
          have p557 : 0 ≤ (x7_2 : Int) := of_decide_eq_true sqs
          have q557 : x7_2 < (t552.length : Int) := of_decide_eq_true sqs
          obtain ⟨ad557, e557, hx557_0⟩ := Kd.at_int (Kd.R_reads' HO_4.out).2.2 x7_2 p557 q557
          cases e557
          replace p557 := eq_true p557
          replace q557 := eq_true q557
          refine start_ (n := 7) (S := fun w' => w'.cell? ⟨gb555, 0, none⟩ = some (.int .i64 t542) ∧ w'.cell? ⟨gb555, 1, none⟩ = some (.slice Ao10 t543.length co10) ∧ w'.cell? ⟨gb555, 2, none⟩ = some (.slice Ao11 t546.length co11) ∧ w'.cell? ⟨gb555, 3, none⟩ = some (.slice Ao12 t549.length co12) ∧ w'.cell? (ad557.add (x7_2).toNat) = some (.int .i64 (rd t552 x7_2))) (ds := []) #[false, false, false, false, false, false, false] sqk rfl rfl (sa4 BK555.out hx557_0) (fun hHeld => ?_)
          generalize wr.drew = w23 at HO_4 HO_556001 HO_556002 HO_556003 BK555 HB hx557_0 hHeld ⊢
          refine pu 1 46 ?_; refine pu 2 47 ?_; refine pu 3 48 ?_; refine ta 0 45 ?_; refine ta 4 49 ?_
          refine on 5 (some 50) (fun K hK => ?_)
          refine goes_ Try.func23 sqk rfl #[.agg #[.int .i64 t542, .slice Ao10 t543.length co10, .slice Ao11 t546.length co11, .slice Ao12 t549.length co12], .int .i64 (rd t552 x7_2)] (by rfl) rfl rfl sqm ?_
          with_reducible refine (impl_AppraiseOne.calls k2 t542 _ _ t543 _ _ t546 _ _ t549 (rd t552 x7_2) t558 _ ?side1 ?side2 ?side3 ?side4 ?side5 ?side6 A18.out).mono ?_
          (case side1 => repeat (first | exact (Kd.R_reads' HO_556001.out).2.2 | (with_reducible refine Kd.C_alloc ?_ _) | (with_reducible refine Kd.C_drewN ?_ _) | (with_reducible refine Kd.C_drew ?_)))
          (case side2 => exact (Kd.R_reads' HO_556001.out).2.1)
          (case side3 => repeat (first | exact (Kd.R_reads' HO_556002.out).2.2 | (with_reducible refine Kd.C_alloc ?_ _) | (with_reducible refine Kd.C_drewN ?_ _) | (with_reducible refine Kd.C_drew ?_)))
          (case side4 => exact (Kd.R_reads' HO_556002.out).2.1)
          (case side5 => repeat (first | exact (Kd.R_reads' HO_556003.out).2.2 | (with_reducible refine Kd.C_alloc ?_ _) | (with_reducible refine Kd.C_drewN ?_ _) | (with_reducible refine Kd.C_drew ?_)))
          (case side6 => exact (Kd.R_reads' HO_556003.out).2.1)
          rintro e w24 ⟨rfl, hb⟩
          have HS4_ := (hb.cell (World.block_lt_of_cell? _ _ (hHeld.2.2.2.2))).trans (hHeld.2.2.2.2)
          refine ⟨_, rfl, ?_⟩
          replace HO_4 := Aside0.mk (Kd.R_below (sqq HO_4.out) hb)
          replace HO_556001 := Aside0.mk (Kd.R_below (sqq HO_556001.out) hb)
          replace HO_556002 := Aside0.mk (Kd.R_below (sqq HO_556002.out) hb)
          replace HO_556003 := Aside0.mk (Kd.R_below (sqq HO_556003.out) hb)
          replace BK555 := Aside0.mk (blk_below (bo BK555) hb)
          replace HB := Aside0.mk (below_step sqh hb)
          (try clear hb)
          (try clear hb2)
          (try clear hk)
          (try clear hi)
          refine hK.out _ _ (sa4 BK555.out HS4_) (fun hHeld => ?_)
          clear hK K; refine no 50 ?_; refine pu 6 8 ?_
          refine dn ?_
          try go_wp2
          go_roundg k2
          case measure => have := HJ5.out; have := HK2.out; omega
          case rel => exact ⟨((t558 == t556)), (wrap64 (x7_2 + 1)), sqr, sqr, H', ⟨by have := HJ5.out; have := HK2.out; omega⟩, ⟨by (with_reducible repeat (first | apply Kd.R_alloc | apply Kd.R_drewN | apply Kd.R_drew)); exact HO_4.out⟩, ⟨by (with_reducible repeat (first | apply Kd.R_alloc | apply Kd.R_drewN | apply Kd.R_drew)); exact HO_556001.out⟩, ⟨by (with_reducible repeat (first | apply Kd.R_alloc | apply Kd.R_drewN | apply Kd.R_drew)); exact HO_556002.out⟩, ⟨by (with_reducible repeat (first | apply Kd.R_alloc | apply Kd.R_drewN | apply Kd.R_drew)); exact HO_556003.out⟩, ⟨sqb BK555.out⟩, ⟨sqh⟩⟩
       ·rw [if_neg c17] at H
        exact absurd H (by simp)
      ·rw [if_neg c16] at H
       have c16b0 : decide (x7_2 < (t552.length : Int)) = false := decide_eq_false c16
       clear c16
       obtain ⟨⟨t559, t560, t563, t566, t569, t570, t573, t576⟩, A25, H⟩ := bA H
       dsimp only at H
       have HC26 := Aside0.mk H
       clear H
       go_upto_region 14 with (first | ((with_reducible refine gate_callee (f := 59) rfl ?_); refine goesL_ (some 62) rfl rfl Try.func59 sqk rfl #[.slice A0 l0.length c0] rfl sqm ?_; (with_reducible refine (spec_DrawIsStricter.calls k2 _ _ l0 t559 t560 t563 t566 t569 t570 t573 t576 _ ?side1 ?side2 A25.out).mono ?_); (case side1 => exact sqn (Kd.C_below HR0.out HB.out)); (case side2 => exact HC0.out); rintro e w27 ⟨v561, v564, v567, v571, v574, v577, rfl, ho0, ho1, ho2, ho3, ho4, ho5, hb⟩; refine ⟨_, rfl, ?_⟩; replace HO_4 := Aside0.mk (Kd.R_below (sqq HO_4.out) hb); replace HO_556001 := Aside0.mk (Kd.R_below (sqq HO_556001.out) hb); replace HO_556002 := Aside0.mk (Kd.R_below (sqq HO_556002.out) hb); replace HO_556003 := Aside0.mk (Kd.R_below (sqq HO_556003.out) hb); have HO562 := Aside0.mk (Kd.R_mono (ok' := fun _ => True) (Kd.R_lower ho0 (below_size sqh)) (fun _ _ => trivial)); have HO565 := Aside0.mk (Kd.R_mono (ok' := fun _ => True) (Kd.R_lower ho1 (below_size sqh)) (fun _ _ => trivial)); have HO568 := Aside0.mk (Kd.R_mono (ok' := fun _ => True) (Kd.R_lower ho2 (below_size sqh)) (fun _ _ => trivial)); have HO572 := Aside0.mk (Kd.R_mono (ok' := fun _ => True) (Kd.R_lower ho3 (below_size sqh)) (fun _ _ => trivial)); have HO575 := Aside0.mk (Kd.R_mono (ok' := fun _ => True) (Kd.R_lower ho4 (below_size sqh)) (fun _ _ => trivial)); have HO578 := Aside0.mk (Kd.R_mono (ok' := fun _ => True) (Kd.R_lower ho5 (below_size sqh)) (fun _ _ => trivial)); replace BK555 := Aside0.mk (blk_below (bo BK555) hb); replace HB := Aside0.mk (below_step sqh hb); (try clear hb); (try clear ho0); (try clear ho1); (try clear ho2); (try clear ho3); (try clear ho4); (try clear ho5)) | ((with_reducible refine gate_dst (N := 9) rfl ?_); refine bx (N := 9) (cs := #[.int .i64 0, .slice none 0 0, .slice none 0 0, .slice none 0 0]) (t := 33) ?_; intro gb579 hg w28 hbox hb; replace HO_4 := Aside0.mk (Kd.R_below (sqq HO_4.out) hb); replace HO_556001 := Aside0.mk (Kd.R_below (sqq HO_556001.out) hb); replace HO_556002 := Aside0.mk (Kd.R_below (sqq HO_556002.out) hb); replace HO_556003 := Aside0.mk (Kd.R_below (sqq HO_556003.out) hb); replace HO562 := Aside0.mk (Kd.R_below (sqq HO562.out) hb); replace HO565 := Aside0.mk (Kd.R_below (sqq HO565.out) hb); replace HO568 := Aside0.mk (Kd.R_below (sqq HO568.out) hb); replace HO572 := Aside0.mk (Kd.R_below (sqq HO572.out) hb); replace HO575 := Aside0.mk (Kd.R_below (sqq HO575.out) hb); replace HO578 := Aside0.mk (Kd.R_below (sqq HO578.out) hb); have BK579 := Aside0.mk (hbox); have GW579 := Aside0.mk ((z13_0 : w.heap.size ≤ gb579)); have GE579 := Aside0.mk ((z13_0 : w.heap.size ≤ gb579)); replace HB := Aside0.mk (below_step sqh hb); have NB555_579 := Aside0.mk ((z13_1 : gb555 ≠ gb579)); have NB579_555 := Aside0.mk ((z13_2 : gb579 ≠ gb555)); replace BK555 := Aside0.mk (blk_below (bo BK555) hb); clear hb hbox hg) | ((with_reducible refine gate_dst (N := 10) rfl ?_); refine bx (N := 10) (cs := #[.int .i64 0, .slice none 0 0, .slice none 0 0, .slice none 0 0]) (t := 33) ?_; intro gb580 hg w29 hbox hb; replace HO_4 := Aside0.mk (Kd.R_below (sqq HO_4.out) hb); replace HO_556001 := Aside0.mk (Kd.R_below (sqq HO_556001.out) hb); replace HO_556002 := Aside0.mk (Kd.R_below (sqq HO_556002.out) hb); replace HO_556003 := Aside0.mk (Kd.R_below (sqq HO_556003.out) hb); replace HO562 := Aside0.mk (Kd.R_below (sqq HO562.out) hb); replace HO565 := Aside0.mk (Kd.R_below (sqq HO565.out) hb); replace HO568 := Aside0.mk (Kd.R_below (sqq HO568.out) hb); replace HO572 := Aside0.mk (Kd.R_below (sqq HO572.out) hb); replace HO575 := Aside0.mk (Kd.R_below (sqq HO575.out) hb); replace HO578 := Aside0.mk (Kd.R_below (sqq HO578.out) hb); have BK580 := Aside0.mk (hbox); have GW580 := Aside0.mk ((z13_0 : w.heap.size ≤ gb580)); have GE580 := Aside0.mk ((z13_0 : w.heap.size ≤ gb580)); replace HB := Aside0.mk (below_step sqh hb); have NB555_580 := Aside0.mk ((z13_1 : gb555 ≠ gb580)); have NB580_555 := Aside0.mk ((z13_2 : gb580 ≠ gb555)); replace BK555 := Aside0.mk (blk_below (bo BK555) hb); have NB579_580 := Aside0.mk ((z13_3 : gb579 ≠ gb580)); have NB580_579 := Aside0.mk ((z13_4 : gb580 ≠ gb579)); replace BK579 := Aside0.mk (blk_below (bo BK579) hb); clear hb hbox hg; have hnb30 := NB579_555.out; have hnc30 := NB555_579.out; have hnb31 := NB579_580.out; have hnc31 := NB580_579.out; obtain ⟨hcz32_0, hcz32_1, hcz32_2, hcz32_3, hfz32_0, hfz32_1, hfz32_2, hfz32_3⟩ := sd4 BK579.out; obtain ⟨Ao33, co33, eo33⟩ := Kd.R_slice HO562.out; subst eo33; obtain ⟨Ao34, co34, eo34⟩ := Kd.R_slice HO565.out; subst eo34; obtain ⟨Ao35, co35, eo35⟩ := Kd.R_slice HO568.out; subst eo35; have hnb36 := NB580_555.out; have hnc36 := NB555_580.out; obtain ⟨hcz37_0, hcz37_1, hcz37_2, hcz37_3, hfz37_0, hfz37_1, hfz37_2, hfz37_3⟩ := sd4 BK580.out; obtain ⟨Ao38, co38, eo38⟩ := Kd.R_slice HO572.out; subst eo38; obtain ⟨Ao39, co39, eo39⟩ := Kd.R_slice HO575.out; subst eo39; obtain ⟨Ao40, co40, eo40⟩ := Kd.R_slice HO578.out; subst eo40))
       (try simp only [Act.put, List.setIfInBounds_toArray, List.set_cons_zero, List.set_cons_succ])
       go_cut [84] (fun v84 wc => ∃ (kq : Nat) (x84_25 : Bool), v84 = .bool x84_25 ∧ Aside0 (laws_FnAppraisal.j2 kq l0 x84_25 t559 t560 t563 t566 t569 t570 t573 t576 = some r) ∧ Aside0 (kq ≤ k2) ∧ Aside0 (Kd.R (Kd.int .i64) 3 wc w.heap.size (fun _ => True) (.slice Ao10 t543.length co10) t543) ∧ Aside0 (Kd.R (Kd.int .i64) 3 wc w.heap.size (fun _ => True) (.slice Ao11 t546.length co11) t546) ∧ Aside0 (Kd.R (Kd.int .i64) 3 wc w.heap.size (fun _ => True) (.slice Ao12 t549.length co12) t549) ∧ Aside0 (Kd.R (Kd.int .i64) 3 wc w.heap.size (fun _ => True) (.slice Ao33 t560.length co33) t560) ∧ Aside0 (Kd.R (Kd.int .i64) 3 wc w.heap.size (fun _ => True) (.slice Ao34 t563.length co34) t563) ∧ Aside0 (Kd.R (Kd.int .i64) 3 wc w.heap.size (fun _ => True) (.slice Ao35 t566.length co35) t566) ∧ Aside0 (Kd.R (Kd.int .i64) 3 wc w.heap.size (fun _ => True) (.slice Ao38 t570.length co38) t570) ∧ Aside0 (Kd.R (Kd.int .i64) 3 wc w.heap.size (fun _ => True) (.slice Ao39 t573.length co39) t573) ∧ Aside0 (Kd.R (Kd.int .i64) 3 wc w.heap.size (fun _ => True) (.slice Ao40 t576.length co40) t576) ∧ Aside0 (wc.heap[gb555]? = some (.cells #[.int .i64 t542, (.slice Ao10 t543.length co10), (.slice Ao11 t546.length co11), (.slice Ao12 t549.length co12)] 33 (0, 0))) ∧ Aside0 (wc.heap[gb579]? = some (.cells #[.int .i64 t559, (.slice Ao33 t560.length co33), (.slice Ao34 t563.length co34), (.slice Ao35 t566.length co35)] 33 (0, 0))) ∧ Aside0 (wc.heap[gb580]? = some (.cells #[.int .i64 t569, (.slice Ao38 t570.length co38), (.slice Ao39 t573.length co39), (.slice Ao40 t576.length co40)] 33 (0, 0))) ∧ Aside0 (Below w.heap.size w wc))
       case first =>
        have H := HC26.out
        clear HC26
        by_cases c41 : x6_2 = true
        ·subst c41
         replace H := iT H
         obtain ⟨t581, A42, H⟩ := bA H
         by_cases c43 : t581 = true
         ·subst c43
          replace H := iT H
          obtain ⟨t582, A44, H⟩ := bA H
          by_cases c45 : t582 = true
          ·subst c45
           replace H := iT H
           obtain ⟨t583, A46, H⟩ := bA H
           obtain ⟨t584, A47, H⟩ := bA H
           have H' := Aside0.mk H
           clear H
           try go_wp2
           have n0_ : Aside0 (Kd.R (Kd.int .i64) 3 ((((((((w29.setCell ⟨gb579, 0, none⟩ (.int .i64 t559)).setCell ⟨gb579, 1, none⟩ (.slice Ao33 t560.length co33)).setCell ⟨gb579, 2, none⟩ (.slice Ao34 t563.length co34)).setCell ⟨gb579, 3, none⟩ (.slice Ao35 t566.length co35)).setCell ⟨gb580, 0, none⟩ (.int .i64 t569)).setCell ⟨gb580, 1, none⟩ (.slice Ao38 t570.length co38)).setCell ⟨gb580, 2, none⟩ (.slice Ao39 t573.length co39)).setCell ⟨gb580, 3, none⟩ (.slice Ao40 t576.length co40)) w.heap.size (fun _ => True) (.slice Ao13 t552.length co13) t552) := ⟨sqR2 HO_4 BK579 BK580⟩
           have n1_ : Aside0 (Kd.R (Kd.int .i64) 3 ((((((((w29.setCell ⟨gb579, 0, none⟩ (.int .i64 t559)).setCell ⟨gb579, 1, none⟩ (.slice Ao33 t560.length co33)).setCell ⟨gb579, 2, none⟩ (.slice Ao34 t563.length co34)).setCell ⟨gb579, 3, none⟩ (.slice Ao35 t566.length co35)).setCell ⟨gb580, 0, none⟩ (.int .i64 t569)).setCell ⟨gb580, 1, none⟩ (.slice Ao38 t570.length co38)).setCell ⟨gb580, 2, none⟩ (.slice Ao39 t573.length co39)).setCell ⟨gb580, 3, none⟩ (.slice Ao40 t576.length co40)) w.heap.size (fun _ => True) (.slice Ao10 t543.length co10) t543) := ⟨sqR2 HO_556001 BK579 BK580⟩
           have n2_ : Aside0 (Kd.R (Kd.int .i64) 3 ((((((((w29.setCell ⟨gb579, 0, none⟩ (.int .i64 t559)).setCell ⟨gb579, 1, none⟩ (.slice Ao33 t560.length co33)).setCell ⟨gb579, 2, none⟩ (.slice Ao34 t563.length co34)).setCell ⟨gb579, 3, none⟩ (.slice Ao35 t566.length co35)).setCell ⟨gb580, 0, none⟩ (.int .i64 t569)).setCell ⟨gb580, 1, none⟩ (.slice Ao38 t570.length co38)).setCell ⟨gb580, 2, none⟩ (.slice Ao39 t573.length co39)).setCell ⟨gb580, 3, none⟩ (.slice Ao40 t576.length co40)) w.heap.size (fun _ => True) (.slice Ao11 t546.length co11) t546) := ⟨sqR2 HO_556002 BK579 BK580⟩
           have n3_ : Aside0 (Kd.R (Kd.int .i64) 3 ((((((((w29.setCell ⟨gb579, 0, none⟩ (.int .i64 t559)).setCell ⟨gb579, 1, none⟩ (.slice Ao33 t560.length co33)).setCell ⟨gb579, 2, none⟩ (.slice Ao34 t563.length co34)).setCell ⟨gb579, 3, none⟩ (.slice Ao35 t566.length co35)).setCell ⟨gb580, 0, none⟩ (.int .i64 t569)).setCell ⟨gb580, 1, none⟩ (.slice Ao38 t570.length co38)).setCell ⟨gb580, 2, none⟩ (.slice Ao39 t573.length co39)).setCell ⟨gb580, 3, none⟩ (.slice Ao40 t576.length co40)) w.heap.size (fun _ => True) (.slice Ao12 t549.length co12) t549) := ⟨sqR2 HO_556003 BK579 BK580⟩
           have n4_ : Aside0 (Kd.R (Kd.int .i64) 3 ((((((((w29.setCell ⟨gb579, 0, none⟩ (.int .i64 t559)).setCell ⟨gb579, 1, none⟩ (.slice Ao33 t560.length co33)).setCell ⟨gb579, 2, none⟩ (.slice Ao34 t563.length co34)).setCell ⟨gb579, 3, none⟩ (.slice Ao35 t566.length co35)).setCell ⟨gb580, 0, none⟩ (.int .i64 t569)).setCell ⟨gb580, 1, none⟩ (.slice Ao38 t570.length co38)).setCell ⟨gb580, 2, none⟩ (.slice Ao39 t573.length co39)).setCell ⟨gb580, 3, none⟩ (.slice Ao40 t576.length co40)) w.heap.size (fun _ => True) (.slice Ao33 t560.length co33) t560) := ⟨sqR2 HO562 BK579 BK580⟩
           have n5_ : Aside0 (Kd.R (Kd.int .i64) 3 ((((((((w29.setCell ⟨gb579, 0, none⟩ (.int .i64 t559)).setCell ⟨gb579, 1, none⟩ (.slice Ao33 t560.length co33)).setCell ⟨gb579, 2, none⟩ (.slice Ao34 t563.length co34)).setCell ⟨gb579, 3, none⟩ (.slice Ao35 t566.length co35)).setCell ⟨gb580, 0, none⟩ (.int .i64 t569)).setCell ⟨gb580, 1, none⟩ (.slice Ao38 t570.length co38)).setCell ⟨gb580, 2, none⟩ (.slice Ao39 t573.length co39)).setCell ⟨gb580, 3, none⟩ (.slice Ao40 t576.length co40)) w.heap.size (fun _ => True) (.slice Ao34 t563.length co34) t563) := ⟨sqR2 HO565 BK579 BK580⟩
           have n6_ : Aside0 (Kd.R (Kd.int .i64) 3 ((((((((w29.setCell ⟨gb579, 0, none⟩ (.int .i64 t559)).setCell ⟨gb579, 1, none⟩ (.slice Ao33 t560.length co33)).setCell ⟨gb579, 2, none⟩ (.slice Ao34 t563.length co34)).setCell ⟨gb579, 3, none⟩ (.slice Ao35 t566.length co35)).setCell ⟨gb580, 0, none⟩ (.int .i64 t569)).setCell ⟨gb580, 1, none⟩ (.slice Ao38 t570.length co38)).setCell ⟨gb580, 2, none⟩ (.slice Ao39 t573.length co39)).setCell ⟨gb580, 3, none⟩ (.slice Ao40 t576.length co40)) w.heap.size (fun _ => True) (.slice Ao35 t566.length co35) t566) := ⟨sqR2 HO568 BK579 BK580⟩
           have n7_ : Aside0 (Kd.R (Kd.int .i64) 3 ((((((((w29.setCell ⟨gb579, 0, none⟩ (.int .i64 t559)).setCell ⟨gb579, 1, none⟩ (.slice Ao33 t560.length co33)).setCell ⟨gb579, 2, none⟩ (.slice Ao34 t563.length co34)).setCell ⟨gb579, 3, none⟩ (.slice Ao35 t566.length co35)).setCell ⟨gb580, 0, none⟩ (.int .i64 t569)).setCell ⟨gb580, 1, none⟩ (.slice Ao38 t570.length co38)).setCell ⟨gb580, 2, none⟩ (.slice Ao39 t573.length co39)).setCell ⟨gb580, 3, none⟩ (.slice Ao40 t576.length co40)) w.heap.size (fun _ => True) (.slice Ao38 t570.length co38) t570) := ⟨sqR2 HO572 BK579 BK580⟩
           have n8_ : Aside0 (Kd.R (Kd.int .i64) 3 ((((((((w29.setCell ⟨gb579, 0, none⟩ (.int .i64 t559)).setCell ⟨gb579, 1, none⟩ (.slice Ao33 t560.length co33)).setCell ⟨gb579, 2, none⟩ (.slice Ao34 t563.length co34)).setCell ⟨gb579, 3, none⟩ (.slice Ao35 t566.length co35)).setCell ⟨gb580, 0, none⟩ (.int .i64 t569)).setCell ⟨gb580, 1, none⟩ (.slice Ao38 t570.length co38)).setCell ⟨gb580, 2, none⟩ (.slice Ao39 t573.length co39)).setCell ⟨gb580, 3, none⟩ (.slice Ao40 t576.length co40)) w.heap.size (fun _ => True) (.slice Ao39 t573.length co39) t573) := ⟨sqR2 HO575 BK579 BK580⟩
           have n9_ : Aside0 (Kd.R (Kd.int .i64) 3 ((((((((w29.setCell ⟨gb579, 0, none⟩ (.int .i64 t559)).setCell ⟨gb579, 1, none⟩ (.slice Ao33 t560.length co33)).setCell ⟨gb579, 2, none⟩ (.slice Ao34 t563.length co34)).setCell ⟨gb579, 3, none⟩ (.slice Ao35 t566.length co35)).setCell ⟨gb580, 0, none⟩ (.int .i64 t569)).setCell ⟨gb580, 1, none⟩ (.slice Ao38 t570.length co38)).setCell ⟨gb580, 2, none⟩ (.slice Ao39 t573.length co39)).setCell ⟨gb580, 3, none⟩ (.slice Ao40 t576.length co40)) w.heap.size (fun _ => True) (.slice Ao40 t576.length co40) t576) := ⟨sqR2 HO578 BK579 BK580⟩
           have n10_ : Aside0 (((((((((w29.setCell ⟨gb579, 0, none⟩ (.int .i64 t559)).setCell ⟨gb579, 1, none⟩ (.slice Ao33 t560.length co33)).setCell ⟨gb579, 2, none⟩ (.slice Ao34 t563.length co34)).setCell ⟨gb579, 3, none⟩ (.slice Ao35 t566.length co35)).setCell ⟨gb580, 0, none⟩ (.int .i64 t569)).setCell ⟨gb580, 1, none⟩ (.slice Ao38 t570.length co38)).setCell ⟨gb580, 2, none⟩ (.slice Ao39 t573.length co39)).setCell ⟨gb580, 3, none⟩ (.slice Ao40 t576.length co40)).heap[gb555]? = some (.cells #[.int .i64 t542, .slice Ao10 t543.length co10, .slice Ao11 t546.length co11, .slice Ao12 t549.length co12] 33 (0, 0))) := ⟨bp BK555⟩
           have n11_ : Aside0 (((((((((w29.setCell ⟨gb579, 0, none⟩ (.int .i64 t559)).setCell ⟨gb579, 1, none⟩ (.slice Ao33 t560.length co33)).setCell ⟨gb579, 2, none⟩ (.slice Ao34 t563.length co34)).setCell ⟨gb579, 3, none⟩ (.slice Ao35 t566.length co35)).setCell ⟨gb580, 0, none⟩ (.int .i64 t569)).setCell ⟨gb580, 1, none⟩ (.slice Ao38 t570.length co38)).setCell ⟨gb580, 2, none⟩ (.slice Ao39 t573.length co39)).setCell ⟨gb580, 3, none⟩ (.slice Ao40 t576.length co40)).heap[gb579]? = some (.cells #[.int .i64 t559, .slice Ao33 t560.length co33, .slice Ao34 t563.length co34, .slice Ao35 t566.length co35] 33 (0, 0))) := ⟨bp BK579⟩
           have n12_ : Aside0 (((((((((w29.setCell ⟨gb579, 0, none⟩ (.int .i64 t559)).setCell ⟨gb579, 1, none⟩ (.slice Ao33 t560.length co33)).setCell ⟨gb579, 2, none⟩ (.slice Ao34 t563.length co34)).setCell ⟨gb579, 3, none⟩ (.slice Ao35 t566.length co35)).setCell ⟨gb580, 0, none⟩ (.int .i64 t569)).setCell ⟨gb580, 1, none⟩ (.slice Ao38 t570.length co38)).setCell ⟨gb580, 2, none⟩ (.slice Ao39 t573.length co39)).setCell ⟨gb580, 3, none⟩ (.slice Ao40 t576.length co40)).heap[gb580]? = some (.cells #[.int .i64 t569, .slice Ao38 t570.length co38, .slice Ao39 t573.length co39, .slice Ao40 t576.length co40] 33 (0, 0))) := ⟨bp BK580⟩
           have n13_ : Aside0 (Below w.heap.size w ((((((((w29.setCell ⟨gb579, 0, none⟩ (.int .i64 t559)).setCell ⟨gb579, 1, none⟩ (.slice Ao33 t560.length co33)).setCell ⟨gb579, 2, none⟩ (.slice Ao34 t563.length co34)).setCell ⟨gb579, 3, none⟩ (.slice Ao35 t566.length co35)).setCell ⟨gb580, 0, none⟩ (.int .i64 t569)).setCell ⟨gb580, 1, none⟩ (.slice Ao38 t570.length co38)).setCell ⟨gb580, 2, none⟩ (.slice Ao39 t573.length co39)).setCell ⟨gb580, 3, none⟩ (.slice Ao40 t576.length co40))) := ⟨sqh⟩
           (try clear HO_4)
           (try clear HO_556001)
           (try clear HO_556002)
           (try clear HO_556003)
           (try clear HO562)
           (try clear HO565)
           (try clear HO568)
           (try clear HO572)
           (try clear HO575)
           (try clear HO578)
           (try clear BK555)
           (try clear BK579)
           (try clear BK580)
           (try clear HB)
           generalize ((((((((w29.setCell ⟨gb579, 0, none⟩ (.int .i64 t559)).setCell ⟨gb579, 1, none⟩ (.slice Ao33 t560.length co33)).setCell ⟨gb579, 2, none⟩ (.slice Ao34 t563.length co34)).setCell ⟨gb579, 3, none⟩ (.slice Ao35 t566.length co35)).setCell ⟨gb580, 0, none⟩ (.int .i64 t569)).setCell ⟨gb580, 1, none⟩ (.slice Ao38 t570.length co38)).setCell ⟨gb580, 2, none⟩ (.slice Ao39 t573.length co39)).setCell ⟨gb580, 3, none⟩ (.slice Ao40 t576.length co40)) = w48 at n0_ n1_ n2_ n3_ n4_ n5_ n6_ n7_ n8_ n9_ n10_ n11_ n12_ n13_ ⊢
           have HO_4 := n0_
           have HO_556001 := n1_
           have HO_556002 := n2_
           have HO_556003 := n3_
           have HO562 := n4_
           have HO565 := n5_
           have HO568 := n6_
           have HO572 := n7_
           have HO575 := n8_
           have HO578 := n9_
           have BK555 := n10_
           have BK579 := n11_
           have BK580 := n12_
           have HB := n13_
           clear n0_ n1_ n2_ n3_ n4_ n5_ n6_ n7_ n8_ n9_ n10_ n11_ n12_ n13_
           replace HO_4 := Aside0.mk (Kd.R_drew HO_4.out)
           replace HO_556001 := Aside0.mk (Kd.R_drew HO_556001.out)
           replace HO_556002 := Aside0.mk (Kd.R_drew HO_556002.out)
           replace HO_556003 := Aside0.mk (Kd.R_drew HO_556003.out)
           replace HO562 := Aside0.mk (Kd.R_drew HO562.out)
           replace HO565 := Aside0.mk (Kd.R_drew HO565.out)
           replace HO568 := Aside0.mk (Kd.R_drew HO568.out)
           replace HO572 := Aside0.mk (Kd.R_drew HO572.out)
           replace HO575 := Aside0.mk (Kd.R_drew HO575.out)
           replace HO578 := Aside0.mk (Kd.R_drew HO578.out)
           replace BK555 := Aside0.mk (blk_drew BK555.out)
           replace BK579 := Aside0.mk (blk_drew BK579.out)
           replace BK580 := Aside0.mk (blk_drew BK580.out)
           replace HB := Aside0.mk (below_drew1 HB.out)
           refine start_ (n := 20) (S := fun w' => w'.cell? ⟨gb579, 0, none⟩ = some (.int .i64 t559) ∧ w'.cell? ⟨gb579, 1, none⟩ = some (.slice Ao33 t560.length co33) ∧ w'.cell? ⟨gb579, 2, none⟩ = some (.slice Ao34 t563.length co34) ∧ w'.cell? ⟨gb579, 3, none⟩ = some (.slice Ao35 t566.length co35) ∧ w'.cell? ⟨gb580, 0, none⟩ = some (.int .i64 t569) ∧ w'.cell? ⟨gb580, 1, none⟩ = some (.slice Ao38 t570.length co38) ∧ w'.cell? ⟨gb580, 2, none⟩ = some (.slice Ao39 t573.length co39) ∧ w'.cell? ⟨gb580, 3, none⟩ = some (.slice Ao40 t576.length co40)) (ds := []) #[false, false, false, false, false, false, false, false, false, false, false, false, false, false, false, false, false, false, false, false] sqk rfl rfl (sa4 BK579.out (sc4 BK580.out)) (fun hHeld => ?_); refine with_tabW laws_FnAppraisal.tab14 laws_FnAppraisal.bits14 (fun HT_ HW_ => ?_)
           generalize w48.drew = w49 at HO_4 HO_556001 HO_556002 HO_556003 HO562 HO565 HO568 HO572 HO575 HO578 BK555 BK579 BK580 HB hHeld ⊢
           refine pu 0 65 ?_; refine pu 1 66 ?_; refine pu 2 67 ?_; refine ta 3 68 ?_; refine ta 4 69 ?_
           refine on 5 (some 70) (fun K hK => ?_)
           refine goes_ Try.func26 sqk rfl #[.agg #[.int .i64 t559, .slice Ao33 t560.length co33, .slice Ao34 t563.length co34, .slice Ao35 t566.length co35], .agg #[.int .i64 t569, .slice Ao38 t570.length co38, .slice Ao39 t573.length co39, .slice Ao40 t576.length co40]] (by rfl) rfl rfl sqm ?_
           with_reducible refine (impl_IsStricter.calls k2 t559 _ _ t560 _ _ t563 _ _ t566 t569 _ _ t570 _ _ t573 _ _ t576 true _ ?side1 ?side2 ?side3 ?side4 ?side5 ?side6 ?side7 ?side8 ?side9 ?side10 ?side11 ?side12 A42.out).mono ?_
           (case side1 => repeat (first | exact (Kd.R_reads' HO562.out).2.2 | (with_reducible refine Kd.C_alloc ?_ _) | (with_reducible refine Kd.C_drewN ?_ _) | (with_reducible refine Kd.C_drew ?_)))
           (case side2 => exact (Kd.R_reads' HO562.out).2.1)
           (case side3 => repeat (first | exact (Kd.R_reads' HO565.out).2.2 | (with_reducible refine Kd.C_alloc ?_ _) | (with_reducible refine Kd.C_drewN ?_ _) | (with_reducible refine Kd.C_drew ?_)))
           (case side4 => exact (Kd.R_reads' HO565.out).2.1)
           (case side5 => repeat (first | exact (Kd.R_reads' HO568.out).2.2 | (with_reducible refine Kd.C_alloc ?_ _) | (with_reducible refine Kd.C_drewN ?_ _) | (with_reducible refine Kd.C_drew ?_)))
           (case side6 => exact (Kd.R_reads' HO568.out).2.1)
           (case side7 => repeat (first | exact (Kd.R_reads' HO572.out).2.2 | (with_reducible refine Kd.C_alloc ?_ _) | (with_reducible refine Kd.C_drewN ?_ _) | (with_reducible refine Kd.C_drew ?_)))
           (case side8 => exact (Kd.R_reads' HO572.out).2.1)
           (case side9 => repeat (first | exact (Kd.R_reads' HO575.out).2.2 | (with_reducible refine Kd.C_alloc ?_ _) | (with_reducible refine Kd.C_drewN ?_ _) | (with_reducible refine Kd.C_drew ?_)))
           (case side10 => exact (Kd.R_reads' HO575.out).2.1)
           (case side11 => repeat (first | exact (Kd.R_reads' HO578.out).2.2 | (with_reducible refine Kd.C_alloc ?_ _) | (with_reducible refine Kd.C_drewN ?_ _) | (with_reducible refine Kd.C_drew ?_)))
           (case side12 => exact (Kd.R_reads' HO578.out).2.1)
           rintro e w50 ⟨rfl, hb⟩
           refine ⟨_, rfl, ?_⟩
           replace HO_4 := Aside0.mk (Kd.R_below (sqq HO_4.out) hb)
           replace HO_556001 := Aside0.mk (Kd.R_below (sqq HO_556001.out) hb)
           replace HO_556002 := Aside0.mk (Kd.R_below (sqq HO_556002.out) hb)
           replace HO_556003 := Aside0.mk (Kd.R_below (sqq HO_556003.out) hb)
           replace HO562 := Aside0.mk (Kd.R_below (sqq HO562.out) hb)
           replace HO565 := Aside0.mk (Kd.R_below (sqq HO565.out) hb)
           replace HO568 := Aside0.mk (Kd.R_below (sqq HO568.out) hb)
           replace HO572 := Aside0.mk (Kd.R_below (sqq HO572.out) hb)
           replace HO575 := Aside0.mk (Kd.R_below (sqq HO575.out) hb)
           replace HO578 := Aside0.mk (Kd.R_below (sqq HO578.out) hb)
           replace BK555 := Aside0.mk (blk_below (bo BK555) hb)
           replace BK579 := Aside0.mk (blk_below (bo BK579) hb)
           replace BK580 := Aside0.mk (blk_below (bo BK580) hb)
           replace HB := Aside0.mk (below_step sqh hb)
           (try clear hb)
           (try clear hb2)
           (try clear hk)
           (try clear hi)
           refine hK.out _ _ (sa4 BK579.out (sc4 BK580.out)) (fun hHeld => ?_)
           clear hK K; refine no 70 ?_; refine pu 6 71 ?_; refine pu 7 72 ?_
           refine on 8 (some 73) (fun K hK => ?_)
           refine goes_ Try.func60 sqk rfl #[.slice Ao13 t552.length co13] (by rfl) rfl rfl sqm ?_
           with_reducible refine (impl_IsLog.calls _ _ t552 true _ ?side1 ?side2 A44.out).mono ?_
           (case side1 => repeat (first | exact (Kd.R_reads' HO_4.out).2.2 | (with_reducible refine Kd.C_alloc ?_ _) | (with_reducible refine Kd.C_drewN ?_ _) | (with_reducible refine Kd.C_drew ?_)))
           (case side2 => exact (Kd.R_reads' HO_4.out).2.1)
           rintro e w51 ⟨rfl, hb⟩
           refine ⟨_, rfl, ?_⟩
           replace HO_4 := Aside0.mk (Kd.R_below (sqq HO_4.out) hb)
           replace HO_556001 := Aside0.mk (Kd.R_below (sqq HO_556001.out) hb)
           replace HO_556002 := Aside0.mk (Kd.R_below (sqq HO_556002.out) hb)
           replace HO_556003 := Aside0.mk (Kd.R_below (sqq HO_556003.out) hb)
           replace HO562 := Aside0.mk (Kd.R_below (sqq HO562.out) hb)
           replace HO565 := Aside0.mk (Kd.R_below (sqq HO565.out) hb)
           replace HO568 := Aside0.mk (Kd.R_below (sqq HO568.out) hb)
           replace HO572 := Aside0.mk (Kd.R_below (sqq HO572.out) hb)
           replace HO575 := Aside0.mk (Kd.R_below (sqq HO575.out) hb)
           replace HO578 := Aside0.mk (Kd.R_below (sqq HO578.out) hb)
           replace BK555 := Aside0.mk (blk_below (bo BK555) hb)
           replace BK579 := Aside0.mk (blk_below (bo BK579) hb)
           replace BK580 := Aside0.mk (blk_below (bo BK580) hb)
           replace HB := Aside0.mk (below_step sqh hb)
           (try clear hb)
           (try clear hb2)
           (try clear hk)
           (try clear hi)
           refine hK.out _ _ (sa4 BK579.out (sc4 BK580.out)) (fun hHeld => ?_)
           clear hK K; refine no 73 ?_; refine pu 9 74 ?_; refine pu 10 75 ?_; refine pu 12 77 ?_; refine pu 15 80 ?_; refine ta 11 76 ?_; refine ta 14 79 ?_
           refine on 13 (some 78) (fun K hK => ?_)
           refine goes_ Try.func29 sqk rfl #[.agg #[.int .i64 t559, .slice Ao33 t560.length co33, .slice Ao34 t563.length co34, .slice Ao35 t566.length co35], .slice Ao13 t552.length co13] (by rfl) rfl rfl sqm ?_
           with_reducible refine (impl_AppraiseLog.calls k2 t559 _ _ t560 _ _ t563 _ _ t566 _ _ t552 t583 _ ?side1 ?side2 ?side3 ?side4 ?side5 ?side6 ?side7 ?side8 A46.out).mono ?_
           (case side1 => repeat (first | exact (Kd.R_reads' HO562.out).2.2 | (with_reducible refine Kd.C_alloc ?_ _) | (with_reducible refine Kd.C_drewN ?_ _) | (with_reducible refine Kd.C_drew ?_)))
           (case side2 => exact (Kd.R_reads' HO562.out).2.1)
           (case side3 => repeat (first | exact (Kd.R_reads' HO565.out).2.2 | (with_reducible refine Kd.C_alloc ?_ _) | (with_reducible refine Kd.C_drewN ?_ _) | (with_reducible refine Kd.C_drew ?_)))
           (case side4 => exact (Kd.R_reads' HO565.out).2.1)
           (case side5 => repeat (first | exact (Kd.R_reads' HO568.out).2.2 | (with_reducible refine Kd.C_alloc ?_ _) | (with_reducible refine Kd.C_drewN ?_ _) | (with_reducible refine Kd.C_drew ?_)))
           (case side6 => exact (Kd.R_reads' HO568.out).2.1)
           (case side7 => repeat (first | exact (Kd.R_reads' HO_4.out).2.2 | (with_reducible refine Kd.C_alloc ?_ _) | (with_reducible refine Kd.C_drewN ?_ _) | (with_reducible refine Kd.C_drew ?_)))
           (case side8 => exact (Kd.R_reads' HO_4.out).2.1)
           rintro e w52 ⟨rfl, hb⟩
           refine ⟨_, rfl, ?_⟩
           replace HO_4 := Aside0.mk (Kd.R_below (sqq HO_4.out) hb)
           replace HO_556001 := Aside0.mk (Kd.R_below (sqq HO_556001.out) hb)
           replace HO_556002 := Aside0.mk (Kd.R_below (sqq HO_556002.out) hb)
           replace HO_556003 := Aside0.mk (Kd.R_below (sqq HO_556003.out) hb)
           replace HO562 := Aside0.mk (Kd.R_below (sqq HO562.out) hb)
           replace HO565 := Aside0.mk (Kd.R_below (sqq HO565.out) hb)
           replace HO568 := Aside0.mk (Kd.R_below (sqq HO568.out) hb)
           replace HO572 := Aside0.mk (Kd.R_below (sqq HO572.out) hb)
           replace HO575 := Aside0.mk (Kd.R_below (sqq HO575.out) hb)
           replace HO578 := Aside0.mk (Kd.R_below (sqq HO578.out) hb)
           replace BK555 := Aside0.mk (blk_below (bo BK555) hb)
           replace BK579 := Aside0.mk (blk_below (bo BK579) hb)
           replace BK580 := Aside0.mk (blk_below (bo BK580) hb)
           replace HB := Aside0.mk (below_step sqh hb)
           (try clear hb)
           (try clear hb2)
           (try clear hk)
           (try clear hi)
           refine hK.out _ _ (sa4 BK579.out (sc4 BK580.out)) (fun hHeld => ?_)
           clear hK K; refine no 78 ?_
           refine on 16 (some 81) (fun K hK => ?_)
           refine goes_ Try.func29 sqk rfl #[.agg #[.int .i64 t569, .slice Ao38 t570.length co38, .slice Ao39 t573.length co39, .slice Ao40 t576.length co40], .slice Ao13 t552.length co13] (by rfl) rfl rfl sqm ?_
           with_reducible refine (impl_AppraiseLog.calls k2 t569 _ _ t570 _ _ t573 _ _ t576 _ _ t552 t584 _ ?side1 ?side2 ?side3 ?side4 ?side5 ?side6 ?side7 ?side8 A47.out).mono ?_
           (case side1 => repeat (first | exact (Kd.R_reads' HO572.out).2.2 | (with_reducible refine Kd.C_alloc ?_ _) | (with_reducible refine Kd.C_drewN ?_ _) | (with_reducible refine Kd.C_drew ?_)))
           (case side2 => exact (Kd.R_reads' HO572.out).2.1)
           (case side3 => repeat (first | exact (Kd.R_reads' HO575.out).2.2 | (with_reducible refine Kd.C_alloc ?_ _) | (with_reducible refine Kd.C_drewN ?_ _) | (with_reducible refine Kd.C_drew ?_)))
           (case side4 => exact (Kd.R_reads' HO575.out).2.1)
           (case side5 => repeat (first | exact (Kd.R_reads' HO578.out).2.2 | (with_reducible refine Kd.C_alloc ?_ _) | (with_reducible refine Kd.C_drewN ?_ _) | (with_reducible refine Kd.C_drew ?_)))
           (case side6 => exact (Kd.R_reads' HO578.out).2.1)
           (case side7 => repeat (first | exact (Kd.R_reads' HO_4.out).2.2 | (with_reducible refine Kd.C_alloc ?_ _) | (with_reducible refine Kd.C_drewN ?_ _) | (with_reducible refine Kd.C_drew ?_)))
           (case side8 => exact (Kd.R_reads' HO_4.out).2.1)
           rintro e w53 ⟨rfl, hb⟩
           refine ⟨_, rfl, ?_⟩
           replace HO_4 := Aside0.mk (Kd.R_below (sqq HO_4.out) hb)
           replace HO_556001 := Aside0.mk (Kd.R_below (sqq HO_556001.out) hb)
           replace HO_556002 := Aside0.mk (Kd.R_below (sqq HO_556002.out) hb)
           replace HO_556003 := Aside0.mk (Kd.R_below (sqq HO_556003.out) hb)
           replace HO562 := Aside0.mk (Kd.R_below (sqq HO562.out) hb)
           replace HO565 := Aside0.mk (Kd.R_below (sqq HO565.out) hb)
           replace HO568 := Aside0.mk (Kd.R_below (sqq HO568.out) hb)
           replace HO572 := Aside0.mk (Kd.R_below (sqq HO572.out) hb)
           replace HO575 := Aside0.mk (Kd.R_below (sqq HO575.out) hb)
           replace HO578 := Aside0.mk (Kd.R_below (sqq HO578.out) hb)
           replace BK555 := Aside0.mk (blk_below (bo BK555) hb)
           replace BK579 := Aside0.mk (blk_below (bo BK579) hb)
           replace BK580 := Aside0.mk (blk_below (bo BK580) hb)
           replace HB := Aside0.mk (below_step sqh hb)
           (try clear hb)
           (try clear hb2)
           (try clear hk)
           (try clear hi)
           refine hK.out _ _ (sa4 BK579.out (sc4 BK580.out)) (fun hHeld => ?_)
           clear hK K; refine no 81 ?_; refine pu 17 82 ?_; refine pu 18 83 ?_; refine pu 19 84 ?_
           refine dn ?_
           try go_wp2
           go_meet
           case rel => exact ⟨_, (decide (t583 > t584)), sqr, H', ⟨by have := HJ5.out; have := HK2.out; first | omega | exact Nat.le_refl _⟩, ⟨sqR0 HO_556001⟩, ⟨sqR0 HO_556002⟩, ⟨sqR0 HO_556003⟩, ⟨sqR0 HO562⟩, ⟨sqR0 HO565⟩, ⟨sqR0 HO568⟩, ⟨sqR0 HO572⟩, ⟨sqR0 HO575⟩, ⟨sqR0 HO578⟩, ⟨sqb BK555.out⟩, ⟨sqb BK579.out⟩, ⟨sqb BK580.out⟩, ⟨sqh⟩⟩
          ·replace c45 := Bool.eq_false_iff.mpr c45
           subst c45
           replace H := iF H
           have H' := Aside0.mk H
           clear H
           try go_wp2
           have n0_ : Aside0 (Kd.R (Kd.int .i64) 3 ((((((((w29.setCell ⟨gb579, 0, none⟩ (.int .i64 t559)).setCell ⟨gb579, 1, none⟩ (.slice Ao33 t560.length co33)).setCell ⟨gb579, 2, none⟩ (.slice Ao34 t563.length co34)).setCell ⟨gb579, 3, none⟩ (.slice Ao35 t566.length co35)).setCell ⟨gb580, 0, none⟩ (.int .i64 t569)).setCell ⟨gb580, 1, none⟩ (.slice Ao38 t570.length co38)).setCell ⟨gb580, 2, none⟩ (.slice Ao39 t573.length co39)).setCell ⟨gb580, 3, none⟩ (.slice Ao40 t576.length co40)) w.heap.size (fun _ => True) (.slice Ao13 t552.length co13) t552) := ⟨sqR2 HO_4 BK579 BK580⟩
           have n1_ : Aside0 (Kd.R (Kd.int .i64) 3 ((((((((w29.setCell ⟨gb579, 0, none⟩ (.int .i64 t559)).setCell ⟨gb579, 1, none⟩ (.slice Ao33 t560.length co33)).setCell ⟨gb579, 2, none⟩ (.slice Ao34 t563.length co34)).setCell ⟨gb579, 3, none⟩ (.slice Ao35 t566.length co35)).setCell ⟨gb580, 0, none⟩ (.int .i64 t569)).setCell ⟨gb580, 1, none⟩ (.slice Ao38 t570.length co38)).setCell ⟨gb580, 2, none⟩ (.slice Ao39 t573.length co39)).setCell ⟨gb580, 3, none⟩ (.slice Ao40 t576.length co40)) w.heap.size (fun _ => True) (.slice Ao10 t543.length co10) t543) := ⟨sqR2 HO_556001 BK579 BK580⟩
           have n2_ : Aside0 (Kd.R (Kd.int .i64) 3 ((((((((w29.setCell ⟨gb579, 0, none⟩ (.int .i64 t559)).setCell ⟨gb579, 1, none⟩ (.slice Ao33 t560.length co33)).setCell ⟨gb579, 2, none⟩ (.slice Ao34 t563.length co34)).setCell ⟨gb579, 3, none⟩ (.slice Ao35 t566.length co35)).setCell ⟨gb580, 0, none⟩ (.int .i64 t569)).setCell ⟨gb580, 1, none⟩ (.slice Ao38 t570.length co38)).setCell ⟨gb580, 2, none⟩ (.slice Ao39 t573.length co39)).setCell ⟨gb580, 3, none⟩ (.slice Ao40 t576.length co40)) w.heap.size (fun _ => True) (.slice Ao11 t546.length co11) t546) := ⟨sqR2 HO_556002 BK579 BK580⟩
           have n3_ : Aside0 (Kd.R (Kd.int .i64) 3 ((((((((w29.setCell ⟨gb579, 0, none⟩ (.int .i64 t559)).setCell ⟨gb579, 1, none⟩ (.slice Ao33 t560.length co33)).setCell ⟨gb579, 2, none⟩ (.slice Ao34 t563.length co34)).setCell ⟨gb579, 3, none⟩ (.slice Ao35 t566.length co35)).setCell ⟨gb580, 0, none⟩ (.int .i64 t569)).setCell ⟨gb580, 1, none⟩ (.slice Ao38 t570.length co38)).setCell ⟨gb580, 2, none⟩ (.slice Ao39 t573.length co39)).setCell ⟨gb580, 3, none⟩ (.slice Ao40 t576.length co40)) w.heap.size (fun _ => True) (.slice Ao12 t549.length co12) t549) := ⟨sqR2 HO_556003 BK579 BK580⟩
           have n4_ : Aside0 (Kd.R (Kd.int .i64) 3 ((((((((w29.setCell ⟨gb579, 0, none⟩ (.int .i64 t559)).setCell ⟨gb579, 1, none⟩ (.slice Ao33 t560.length co33)).setCell ⟨gb579, 2, none⟩ (.slice Ao34 t563.length co34)).setCell ⟨gb579, 3, none⟩ (.slice Ao35 t566.length co35)).setCell ⟨gb580, 0, none⟩ (.int .i64 t569)).setCell ⟨gb580, 1, none⟩ (.slice Ao38 t570.length co38)).setCell ⟨gb580, 2, none⟩ (.slice Ao39 t573.length co39)).setCell ⟨gb580, 3, none⟩ (.slice Ao40 t576.length co40)) w.heap.size (fun _ => True) (.slice Ao33 t560.length co33) t560) := ⟨sqR2 HO562 BK579 BK580⟩
           have n5_ : Aside0 (Kd.R (Kd.int .i64) 3 ((((((((w29.setCell ⟨gb579, 0, none⟩ (.int .i64 t559)).setCell ⟨gb579, 1, none⟩ (.slice Ao33 t560.length co33)).setCell ⟨gb579, 2, none⟩ (.slice Ao34 t563.length co34)).setCell ⟨gb579, 3, none⟩ (.slice Ao35 t566.length co35)).setCell ⟨gb580, 0, none⟩ (.int .i64 t569)).setCell ⟨gb580, 1, none⟩ (.slice Ao38 t570.length co38)).setCell ⟨gb580, 2, none⟩ (.slice Ao39 t573.length co39)).setCell ⟨gb580, 3, none⟩ (.slice Ao40 t576.length co40)) w.heap.size (fun _ => True) (.slice Ao34 t563.length co34) t563) := ⟨sqR2 HO565 BK579 BK580⟩
           have n6_ : Aside0 (Kd.R (Kd.int .i64) 3 ((((((((w29.setCell ⟨gb579, 0, none⟩ (.int .i64 t559)).setCell ⟨gb579, 1, none⟩ (.slice Ao33 t560.length co33)).setCell ⟨gb579, 2, none⟩ (.slice Ao34 t563.length co34)).setCell ⟨gb579, 3, none⟩ (.slice Ao35 t566.length co35)).setCell ⟨gb580, 0, none⟩ (.int .i64 t569)).setCell ⟨gb580, 1, none⟩ (.slice Ao38 t570.length co38)).setCell ⟨gb580, 2, none⟩ (.slice Ao39 t573.length co39)).setCell ⟨gb580, 3, none⟩ (.slice Ao40 t576.length co40)) w.heap.size (fun _ => True) (.slice Ao35 t566.length co35) t566) := ⟨sqR2 HO568 BK579 BK580⟩
           have n7_ : Aside0 (Kd.R (Kd.int .i64) 3 ((((((((w29.setCell ⟨gb579, 0, none⟩ (.int .i64 t559)).setCell ⟨gb579, 1, none⟩ (.slice Ao33 t560.length co33)).setCell ⟨gb579, 2, none⟩ (.slice Ao34 t563.length co34)).setCell ⟨gb579, 3, none⟩ (.slice Ao35 t566.length co35)).setCell ⟨gb580, 0, none⟩ (.int .i64 t569)).setCell ⟨gb580, 1, none⟩ (.slice Ao38 t570.length co38)).setCell ⟨gb580, 2, none⟩ (.slice Ao39 t573.length co39)).setCell ⟨gb580, 3, none⟩ (.slice Ao40 t576.length co40)) w.heap.size (fun _ => True) (.slice Ao38 t570.length co38) t570) := ⟨sqR2 HO572 BK579 BK580⟩
           have n8_ : Aside0 (Kd.R (Kd.int .i64) 3 ((((((((w29.setCell ⟨gb579, 0, none⟩ (.int .i64 t559)).setCell ⟨gb579, 1, none⟩ (.slice Ao33 t560.length co33)).setCell ⟨gb579, 2, none⟩ (.slice Ao34 t563.length co34)).setCell ⟨gb579, 3, none⟩ (.slice Ao35 t566.length co35)).setCell ⟨gb580, 0, none⟩ (.int .i64 t569)).setCell ⟨gb580, 1, none⟩ (.slice Ao38 t570.length co38)).setCell ⟨gb580, 2, none⟩ (.slice Ao39 t573.length co39)).setCell ⟨gb580, 3, none⟩ (.slice Ao40 t576.length co40)) w.heap.size (fun _ => True) (.slice Ao39 t573.length co39) t573) := ⟨sqR2 HO575 BK579 BK580⟩
           have n9_ : Aside0 (Kd.R (Kd.int .i64) 3 ((((((((w29.setCell ⟨gb579, 0, none⟩ (.int .i64 t559)).setCell ⟨gb579, 1, none⟩ (.slice Ao33 t560.length co33)).setCell ⟨gb579, 2, none⟩ (.slice Ao34 t563.length co34)).setCell ⟨gb579, 3, none⟩ (.slice Ao35 t566.length co35)).setCell ⟨gb580, 0, none⟩ (.int .i64 t569)).setCell ⟨gb580, 1, none⟩ (.slice Ao38 t570.length co38)).setCell ⟨gb580, 2, none⟩ (.slice Ao39 t573.length co39)).setCell ⟨gb580, 3, none⟩ (.slice Ao40 t576.length co40)) w.heap.size (fun _ => True) (.slice Ao40 t576.length co40) t576) := ⟨sqR2 HO578 BK579 BK580⟩
           have n10_ : Aside0 (((((((((w29.setCell ⟨gb579, 0, none⟩ (.int .i64 t559)).setCell ⟨gb579, 1, none⟩ (.slice Ao33 t560.length co33)).setCell ⟨gb579, 2, none⟩ (.slice Ao34 t563.length co34)).setCell ⟨gb579, 3, none⟩ (.slice Ao35 t566.length co35)).setCell ⟨gb580, 0, none⟩ (.int .i64 t569)).setCell ⟨gb580, 1, none⟩ (.slice Ao38 t570.length co38)).setCell ⟨gb580, 2, none⟩ (.slice Ao39 t573.length co39)).setCell ⟨gb580, 3, none⟩ (.slice Ao40 t576.length co40)).heap[gb555]? = some (.cells #[.int .i64 t542, .slice Ao10 t543.length co10, .slice Ao11 t546.length co11, .slice Ao12 t549.length co12] 33 (0, 0))) := ⟨bp BK555⟩
           have n11_ : Aside0 (((((((((w29.setCell ⟨gb579, 0, none⟩ (.int .i64 t559)).setCell ⟨gb579, 1, none⟩ (.slice Ao33 t560.length co33)).setCell ⟨gb579, 2, none⟩ (.slice Ao34 t563.length co34)).setCell ⟨gb579, 3, none⟩ (.slice Ao35 t566.length co35)).setCell ⟨gb580, 0, none⟩ (.int .i64 t569)).setCell ⟨gb580, 1, none⟩ (.slice Ao38 t570.length co38)).setCell ⟨gb580, 2, none⟩ (.slice Ao39 t573.length co39)).setCell ⟨gb580, 3, none⟩ (.slice Ao40 t576.length co40)).heap[gb579]? = some (.cells #[.int .i64 t559, .slice Ao33 t560.length co33, .slice Ao34 t563.length co34, .slice Ao35 t566.length co35] 33 (0, 0))) := ⟨bp BK579⟩
           have n12_ : Aside0 (((((((((w29.setCell ⟨gb579, 0, none⟩ (.int .i64 t559)).setCell ⟨gb579, 1, none⟩ (.slice Ao33 t560.length co33)).setCell ⟨gb579, 2, none⟩ (.slice Ao34 t563.length co34)).setCell ⟨gb579, 3, none⟩ (.slice Ao35 t566.length co35)).setCell ⟨gb580, 0, none⟩ (.int .i64 t569)).setCell ⟨gb580, 1, none⟩ (.slice Ao38 t570.length co38)).setCell ⟨gb580, 2, none⟩ (.slice Ao39 t573.length co39)).setCell ⟨gb580, 3, none⟩ (.slice Ao40 t576.length co40)).heap[gb580]? = some (.cells #[.int .i64 t569, .slice Ao38 t570.length co38, .slice Ao39 t573.length co39, .slice Ao40 t576.length co40] 33 (0, 0))) := ⟨bp BK580⟩
           have n13_ : Aside0 (Below w.heap.size w ((((((((w29.setCell ⟨gb579, 0, none⟩ (.int .i64 t559)).setCell ⟨gb579, 1, none⟩ (.slice Ao33 t560.length co33)).setCell ⟨gb579, 2, none⟩ (.slice Ao34 t563.length co34)).setCell ⟨gb579, 3, none⟩ (.slice Ao35 t566.length co35)).setCell ⟨gb580, 0, none⟩ (.int .i64 t569)).setCell ⟨gb580, 1, none⟩ (.slice Ao38 t570.length co38)).setCell ⟨gb580, 2, none⟩ (.slice Ao39 t573.length co39)).setCell ⟨gb580, 3, none⟩ (.slice Ao40 t576.length co40))) := ⟨sqh⟩
           (try clear HO_4)
           (try clear HO_556001)
           (try clear HO_556002)
           (try clear HO_556003)
           (try clear HO562)
           (try clear HO565)
           (try clear HO568)
           (try clear HO572)
           (try clear HO575)
           (try clear HO578)
           (try clear BK555)
           (try clear BK579)
           (try clear BK580)
           (try clear HB)
           generalize ((((((((w29.setCell ⟨gb579, 0, none⟩ (.int .i64 t559)).setCell ⟨gb579, 1, none⟩ (.slice Ao33 t560.length co33)).setCell ⟨gb579, 2, none⟩ (.slice Ao34 t563.length co34)).setCell ⟨gb579, 3, none⟩ (.slice Ao35 t566.length co35)).setCell ⟨gb580, 0, none⟩ (.int .i64 t569)).setCell ⟨gb580, 1, none⟩ (.slice Ao38 t570.length co38)).setCell ⟨gb580, 2, none⟩ (.slice Ao39 t573.length co39)).setCell ⟨gb580, 3, none⟩ (.slice Ao40 t576.length co40)) = w54 at n0_ n1_ n2_ n3_ n4_ n5_ n6_ n7_ n8_ n9_ n10_ n11_ n12_ n13_ ⊢
           have HO_4 := n0_
           have HO_556001 := n1_
           have HO_556002 := n2_
           have HO_556003 := n3_
           have HO562 := n4_
           have HO565 := n5_
           have HO568 := n6_
           have HO572 := n7_
           have HO575 := n8_
           have HO578 := n9_
           have BK555 := n10_
           have BK579 := n11_
           have BK580 := n12_
           have HB := n13_
           clear n0_ n1_ n2_ n3_ n4_ n5_ n6_ n7_ n8_ n9_ n10_ n11_ n12_ n13_
           replace HO_4 := Aside0.mk (Kd.R_drew HO_4.out)
           replace HO_556001 := Aside0.mk (Kd.R_drew HO_556001.out)
           replace HO_556002 := Aside0.mk (Kd.R_drew HO_556002.out)
           replace HO_556003 := Aside0.mk (Kd.R_drew HO_556003.out)
           replace HO562 := Aside0.mk (Kd.R_drew HO562.out)
           replace HO565 := Aside0.mk (Kd.R_drew HO565.out)
           replace HO568 := Aside0.mk (Kd.R_drew HO568.out)
           replace HO572 := Aside0.mk (Kd.R_drew HO572.out)
           replace HO575 := Aside0.mk (Kd.R_drew HO575.out)
           replace HO578 := Aside0.mk (Kd.R_drew HO578.out)
           replace BK555 := Aside0.mk (blk_drew BK555.out)
           replace BK579 := Aside0.mk (blk_drew BK579.out)
           replace BK580 := Aside0.mk (blk_drew BK580.out)
           replace HB := Aside0.mk (below_drew1 HB.out)
           refine start_ (n := 20) (S := fun w' => w'.cell? ⟨gb579, 0, none⟩ = some (.int .i64 t559) ∧ w'.cell? ⟨gb579, 1, none⟩ = some (.slice Ao33 t560.length co33) ∧ w'.cell? ⟨gb579, 2, none⟩ = some (.slice Ao34 t563.length co34) ∧ w'.cell? ⟨gb579, 3, none⟩ = some (.slice Ao35 t566.length co35) ∧ w'.cell? ⟨gb580, 0, none⟩ = some (.int .i64 t569) ∧ w'.cell? ⟨gb580, 1, none⟩ = some (.slice Ao38 t570.length co38) ∧ w'.cell? ⟨gb580, 2, none⟩ = some (.slice Ao39 t573.length co39) ∧ w'.cell? ⟨gb580, 3, none⟩ = some (.slice Ao40 t576.length co40)) (ds := []) #[false, false, false, false, false, false, false, false, false, false, false, false, false, false, false, false, false, false, false, false] sqk rfl rfl (sa4 BK579.out (sc4 BK580.out)) (fun hHeld => ?_); refine with_tabW laws_FnAppraisal.tab14 laws_FnAppraisal.bits14 (fun HT_ HW_ => ?_)
           generalize w54.drew = w55 at HO_4 HO_556001 HO_556002 HO_556003 HO562 HO565 HO568 HO572 HO575 HO578 BK555 BK579 BK580 HB hHeld ⊢
           refine pu 0 65 ?_; refine pu 1 66 ?_; refine pu 2 67 ?_; refine ta 3 68 ?_; refine ta 4 69 ?_
           refine on 5 (some 70) (fun K hK => ?_)
           refine goes_ Try.func26 sqk rfl #[.agg #[.int .i64 t559, .slice Ao33 t560.length co33, .slice Ao34 t563.length co34, .slice Ao35 t566.length co35], .agg #[.int .i64 t569, .slice Ao38 t570.length co38, .slice Ao39 t573.length co39, .slice Ao40 t576.length co40]] (by rfl) rfl rfl sqm ?_
           with_reducible refine (impl_IsStricter.calls k2 t559 _ _ t560 _ _ t563 _ _ t566 t569 _ _ t570 _ _ t573 _ _ t576 true _ ?side1 ?side2 ?side3 ?side4 ?side5 ?side6 ?side7 ?side8 ?side9 ?side10 ?side11 ?side12 A42.out).mono ?_
           (case side1 => repeat (first | exact (Kd.R_reads' HO562.out).2.2 | (with_reducible refine Kd.C_alloc ?_ _) | (with_reducible refine Kd.C_drewN ?_ _) | (with_reducible refine Kd.C_drew ?_)))
           (case side2 => exact (Kd.R_reads' HO562.out).2.1)
           (case side3 => repeat (first | exact (Kd.R_reads' HO565.out).2.2 | (with_reducible refine Kd.C_alloc ?_ _) | (with_reducible refine Kd.C_drewN ?_ _) | (with_reducible refine Kd.C_drew ?_)))
           (case side4 => exact (Kd.R_reads' HO565.out).2.1)
           (case side5 => repeat (first | exact (Kd.R_reads' HO568.out).2.2 | (with_reducible refine Kd.C_alloc ?_ _) | (with_reducible refine Kd.C_drewN ?_ _) | (with_reducible refine Kd.C_drew ?_)))
           (case side6 => exact (Kd.R_reads' HO568.out).2.1)
           (case side7 => repeat (first | exact (Kd.R_reads' HO572.out).2.2 | (with_reducible refine Kd.C_alloc ?_ _) | (with_reducible refine Kd.C_drewN ?_ _) | (with_reducible refine Kd.C_drew ?_)))
           (case side8 => exact (Kd.R_reads' HO572.out).2.1)
           (case side9 => repeat (first | exact (Kd.R_reads' HO575.out).2.2 | (with_reducible refine Kd.C_alloc ?_ _) | (with_reducible refine Kd.C_drewN ?_ _) | (with_reducible refine Kd.C_drew ?_)))
           (case side10 => exact (Kd.R_reads' HO575.out).2.1)
           (case side11 => repeat (first | exact (Kd.R_reads' HO578.out).2.2 | (with_reducible refine Kd.C_alloc ?_ _) | (with_reducible refine Kd.C_drewN ?_ _) | (with_reducible refine Kd.C_drew ?_)))
           (case side12 => exact (Kd.R_reads' HO578.out).2.1)
           rintro e w56 ⟨rfl, hb⟩
           refine ⟨_, rfl, ?_⟩
           replace HO_4 := Aside0.mk (Kd.R_below (sqq HO_4.out) hb)
           replace HO_556001 := Aside0.mk (Kd.R_below (sqq HO_556001.out) hb)
           replace HO_556002 := Aside0.mk (Kd.R_below (sqq HO_556002.out) hb)
           replace HO_556003 := Aside0.mk (Kd.R_below (sqq HO_556003.out) hb)
           replace HO562 := Aside0.mk (Kd.R_below (sqq HO562.out) hb)
           replace HO565 := Aside0.mk (Kd.R_below (sqq HO565.out) hb)
           replace HO568 := Aside0.mk (Kd.R_below (sqq HO568.out) hb)
           replace HO572 := Aside0.mk (Kd.R_below (sqq HO572.out) hb)
           replace HO575 := Aside0.mk (Kd.R_below (sqq HO575.out) hb)
           replace HO578 := Aside0.mk (Kd.R_below (sqq HO578.out) hb)
           replace BK555 := Aside0.mk (blk_below (bo BK555) hb)
           replace BK579 := Aside0.mk (blk_below (bo BK579) hb)
           replace BK580 := Aside0.mk (blk_below (bo BK580) hb)
           replace HB := Aside0.mk (below_step sqh hb)
           (try clear hb)
           (try clear hb2)
           (try clear hk)
           (try clear hi)
           refine hK.out _ _ (sa4 BK579.out (sc4 BK580.out)) (fun hHeld => ?_)
           clear hK K; refine no 70 ?_; refine pu 6 71 ?_; refine pu 7 72 ?_
           refine on 8 (some 73) (fun K hK => ?_)
           refine goes_ Try.func60 sqk rfl #[.slice Ao13 t552.length co13] (by rfl) rfl rfl sqm ?_
           with_reducible refine (impl_IsLog.calls _ _ t552 false _ ?side1 ?side2 A44.out).mono ?_
           (case side1 => repeat (first | exact (Kd.R_reads' HO_4.out).2.2 | (with_reducible refine Kd.C_alloc ?_ _) | (with_reducible refine Kd.C_drewN ?_ _) | (with_reducible refine Kd.C_drew ?_)))
           (case side2 => exact (Kd.R_reads' HO_4.out).2.1)
           rintro e w57 ⟨rfl, hb⟩
           refine ⟨_, rfl, ?_⟩
           replace HO_4 := Aside0.mk (Kd.R_below (sqq HO_4.out) hb)
           replace HO_556001 := Aside0.mk (Kd.R_below (sqq HO_556001.out) hb)
           replace HO_556002 := Aside0.mk (Kd.R_below (sqq HO_556002.out) hb)
           replace HO_556003 := Aside0.mk (Kd.R_below (sqq HO_556003.out) hb)
           replace HO562 := Aside0.mk (Kd.R_below (sqq HO562.out) hb)
           replace HO565 := Aside0.mk (Kd.R_below (sqq HO565.out) hb)
           replace HO568 := Aside0.mk (Kd.R_below (sqq HO568.out) hb)
           replace HO572 := Aside0.mk (Kd.R_below (sqq HO572.out) hb)
           replace HO575 := Aside0.mk (Kd.R_below (sqq HO575.out) hb)
           replace HO578 := Aside0.mk (Kd.R_below (sqq HO578.out) hb)
           replace BK555 := Aside0.mk (blk_below (bo BK555) hb)
           replace BK579 := Aside0.mk (blk_below (bo BK579) hb)
           replace BK580 := Aside0.mk (blk_below (bo BK580) hb)
           replace HB := Aside0.mk (below_step sqh hb)
           (try clear hb)
           (try clear hb2)
           (try clear hk)
           (try clear hi)
           refine hK.out _ _ (sa4 BK579.out (sc4 BK580.out)) (fun hHeld => ?_)
           clear hK K; refine no 73 ?_; refine pu 9 74 ?_; refine pu 10 75 ?_
           refine pure_ (i := 11) (N := some 76) (v := undef) (a' := ?_) #[true, true, true, true, true, true, true, true, true, true, true, true, false, false, false, false, false, false, false, false] rfl rfl (any_of HT_.out sqk) (fun _ _ _ h => h) (Or.inr ⟨by rfl, rfl⟩) ?_ ?_
           rotate_left
           ·simp only [Act.put, List.setIfInBounds_toArray, List.set_cons_zero, List.set_cons_succ, i64_w, i32_w]
            rfl
           refine pure_ (i := 12) (N := some 77) (v := undef) (a' := ?_) #[true, true, true, true, true, true, true, true, true, true, true, true, true, false, false, false, false, false, false, false] rfl rfl (any_of HT_.out sqk) (fun _ _ _ h => h) (Or.inr ⟨by rfl, rfl⟩) ?_ ?_
           rotate_left
           ·simp only [Act.put, List.setIfInBounds_toArray, List.set_cons_zero, List.set_cons_succ, i64_w, i32_w]
            rfl
           refine pure_ (i := 13) (N := some 78) (v := undef) (a' := ?_) #[true, true, true, true, true, true, true, true, true, true, true, true, true, true, false, false, false, false, false, false] rfl rfl (any_of HT_.out sqk) (fun _ _ _ h => h) (Or.inr ⟨by rfl, rfl⟩) ?_ ?_
           rotate_left
           ·simp only [Act.put, List.setIfInBounds_toArray, List.set_cons_zero, List.set_cons_succ, i64_w, i32_w]
            rfl
           refine pure_ (i := 14) (N := some 79) (v := undef) (a' := ?_) #[true, true, true, true, true, true, true, true, true, true, true, true, true, true, true, false, false, false, false, false] rfl rfl (any_of HT_.out sqk) (fun _ _ _ h => h) (Or.inr ⟨by rfl, rfl⟩) ?_ ?_
           rotate_left
           ·simp only [Act.put, List.setIfInBounds_toArray, List.set_cons_zero, List.set_cons_succ, i64_w, i32_w]
            rfl
           refine pure_ (i := 15) (N := some 80) (v := undef) (a' := ?_) #[true, true, true, true, true, true, true, true, true, true, true, true, true, true, true, true, false, false, false, false] rfl rfl (any_of HT_.out sqk) (fun _ _ _ h => h) (Or.inr ⟨by rfl, rfl⟩) ?_ ?_
           rotate_left
           ·simp only [Act.put, List.setIfInBounds_toArray, List.set_cons_zero, List.set_cons_succ, i64_w, i32_w]
            rfl
           refine pure_ (i := 16) (N := some 81) (v := undef) (a' := ?_) #[true, true, true, true, true, true, true, true, true, true, true, true, true, true, true, true, true, false, false, false] rfl rfl (any_of HT_.out sqk) (fun _ _ _ h => h) (Or.inr ⟨by rfl, rfl⟩) ?_ ?_
           rotate_left
           ·simp only [Act.put, List.setIfInBounds_toArray, List.set_cons_zero, List.set_cons_succ, i64_w, i32_w]
            rfl
           refine pure_ (i := 17) (N := some 82) (v := undef) (a' := ?_) #[true, true, true, true, true, true, true, true, true, true, true, true, true, true, true, true, true, true, false, false] rfl rfl (any_of HT_.out sqk) (fun _ _ _ h => h) (Or.inr ⟨by rfl, rfl⟩) ?_ ?_
           rotate_left
           ·simp only [Act.put, List.setIfInBounds_toArray, List.set_cons_zero, List.set_cons_succ, i64_w, i32_w]
            rfl
           refine pu 18 83 ?_; refine pu 19 84 ?_
           refine dn ?_
           try go_wp2
           go_meet
           case rel => exact ⟨_, (false), sqr, H', ⟨by have := HJ5.out; have := HK2.out; first | omega | exact Nat.le_refl _⟩, ⟨sqR0 HO_556001⟩, ⟨sqR0 HO_556002⟩, ⟨sqR0 HO_556003⟩, ⟨sqR0 HO562⟩, ⟨sqR0 HO565⟩, ⟨sqR0 HO568⟩, ⟨sqR0 HO572⟩, ⟨sqR0 HO575⟩, ⟨sqR0 HO578⟩, ⟨sqb BK555.out⟩, ⟨sqb BK579.out⟩, ⟨sqb BK580.out⟩, ⟨sqh⟩⟩
         ·replace c43 := Bool.eq_false_iff.mpr c43
          subst c43
          replace H := iF H
          have H' := Aside0.mk H
          clear H
          try go_wp2
          have n0_ : Aside0 (Kd.R (Kd.int .i64) 3 ((((((((w29.setCell ⟨gb579, 0, none⟩ (.int .i64 t559)).setCell ⟨gb579, 1, none⟩ (.slice Ao33 t560.length co33)).setCell ⟨gb579, 2, none⟩ (.slice Ao34 t563.length co34)).setCell ⟨gb579, 3, none⟩ (.slice Ao35 t566.length co35)).setCell ⟨gb580, 0, none⟩ (.int .i64 t569)).setCell ⟨gb580, 1, none⟩ (.slice Ao38 t570.length co38)).setCell ⟨gb580, 2, none⟩ (.slice Ao39 t573.length co39)).setCell ⟨gb580, 3, none⟩ (.slice Ao40 t576.length co40)) w.heap.size (fun _ => True) (.slice Ao13 t552.length co13) t552) := ⟨sqR2 HO_4 BK579 BK580⟩
          have n1_ : Aside0 (Kd.R (Kd.int .i64) 3 ((((((((w29.setCell ⟨gb579, 0, none⟩ (.int .i64 t559)).setCell ⟨gb579, 1, none⟩ (.slice Ao33 t560.length co33)).setCell ⟨gb579, 2, none⟩ (.slice Ao34 t563.length co34)).setCell ⟨gb579, 3, none⟩ (.slice Ao35 t566.length co35)).setCell ⟨gb580, 0, none⟩ (.int .i64 t569)).setCell ⟨gb580, 1, none⟩ (.slice Ao38 t570.length co38)).setCell ⟨gb580, 2, none⟩ (.slice Ao39 t573.length co39)).setCell ⟨gb580, 3, none⟩ (.slice Ao40 t576.length co40)) w.heap.size (fun _ => True) (.slice Ao10 t543.length co10) t543) := ⟨sqR2 HO_556001 BK579 BK580⟩
          have n2_ : Aside0 (Kd.R (Kd.int .i64) 3 ((((((((w29.setCell ⟨gb579, 0, none⟩ (.int .i64 t559)).setCell ⟨gb579, 1, none⟩ (.slice Ao33 t560.length co33)).setCell ⟨gb579, 2, none⟩ (.slice Ao34 t563.length co34)).setCell ⟨gb579, 3, none⟩ (.slice Ao35 t566.length co35)).setCell ⟨gb580, 0, none⟩ (.int .i64 t569)).setCell ⟨gb580, 1, none⟩ (.slice Ao38 t570.length co38)).setCell ⟨gb580, 2, none⟩ (.slice Ao39 t573.length co39)).setCell ⟨gb580, 3, none⟩ (.slice Ao40 t576.length co40)) w.heap.size (fun _ => True) (.slice Ao11 t546.length co11) t546) := ⟨sqR2 HO_556002 BK579 BK580⟩
          have n3_ : Aside0 (Kd.R (Kd.int .i64) 3 ((((((((w29.setCell ⟨gb579, 0, none⟩ (.int .i64 t559)).setCell ⟨gb579, 1, none⟩ (.slice Ao33 t560.length co33)).setCell ⟨gb579, 2, none⟩ (.slice Ao34 t563.length co34)).setCell ⟨gb579, 3, none⟩ (.slice Ao35 t566.length co35)).setCell ⟨gb580, 0, none⟩ (.int .i64 t569)).setCell ⟨gb580, 1, none⟩ (.slice Ao38 t570.length co38)).setCell ⟨gb580, 2, none⟩ (.slice Ao39 t573.length co39)).setCell ⟨gb580, 3, none⟩ (.slice Ao40 t576.length co40)) w.heap.size (fun _ => True) (.slice Ao12 t549.length co12) t549) := ⟨sqR2 HO_556003 BK579 BK580⟩
          have n4_ : Aside0 (Kd.R (Kd.int .i64) 3 ((((((((w29.setCell ⟨gb579, 0, none⟩ (.int .i64 t559)).setCell ⟨gb579, 1, none⟩ (.slice Ao33 t560.length co33)).setCell ⟨gb579, 2, none⟩ (.slice Ao34 t563.length co34)).setCell ⟨gb579, 3, none⟩ (.slice Ao35 t566.length co35)).setCell ⟨gb580, 0, none⟩ (.int .i64 t569)).setCell ⟨gb580, 1, none⟩ (.slice Ao38 t570.length co38)).setCell ⟨gb580, 2, none⟩ (.slice Ao39 t573.length co39)).setCell ⟨gb580, 3, none⟩ (.slice Ao40 t576.length co40)) w.heap.size (fun _ => True) (.slice Ao33 t560.length co33) t560) := ⟨sqR2 HO562 BK579 BK580⟩
          have n5_ : Aside0 (Kd.R (Kd.int .i64) 3 ((((((((w29.setCell ⟨gb579, 0, none⟩ (.int .i64 t559)).setCell ⟨gb579, 1, none⟩ (.slice Ao33 t560.length co33)).setCell ⟨gb579, 2, none⟩ (.slice Ao34 t563.length co34)).setCell ⟨gb579, 3, none⟩ (.slice Ao35 t566.length co35)).setCell ⟨gb580, 0, none⟩ (.int .i64 t569)).setCell ⟨gb580, 1, none⟩ (.slice Ao38 t570.length co38)).setCell ⟨gb580, 2, none⟩ (.slice Ao39 t573.length co39)).setCell ⟨gb580, 3, none⟩ (.slice Ao40 t576.length co40)) w.heap.size (fun _ => True) (.slice Ao34 t563.length co34) t563) := ⟨sqR2 HO565 BK579 BK580⟩
          have n6_ : Aside0 (Kd.R (Kd.int .i64) 3 ((((((((w29.setCell ⟨gb579, 0, none⟩ (.int .i64 t559)).setCell ⟨gb579, 1, none⟩ (.slice Ao33 t560.length co33)).setCell ⟨gb579, 2, none⟩ (.slice Ao34 t563.length co34)).setCell ⟨gb579, 3, none⟩ (.slice Ao35 t566.length co35)).setCell ⟨gb580, 0, none⟩ (.int .i64 t569)).setCell ⟨gb580, 1, none⟩ (.slice Ao38 t570.length co38)).setCell ⟨gb580, 2, none⟩ (.slice Ao39 t573.length co39)).setCell ⟨gb580, 3, none⟩ (.slice Ao40 t576.length co40)) w.heap.size (fun _ => True) (.slice Ao35 t566.length co35) t566) := ⟨sqR2 HO568 BK579 BK580⟩
          have n7_ : Aside0 (Kd.R (Kd.int .i64) 3 ((((((((w29.setCell ⟨gb579, 0, none⟩ (.int .i64 t559)).setCell ⟨gb579, 1, none⟩ (.slice Ao33 t560.length co33)).setCell ⟨gb579, 2, none⟩ (.slice Ao34 t563.length co34)).setCell ⟨gb579, 3, none⟩ (.slice Ao35 t566.length co35)).setCell ⟨gb580, 0, none⟩ (.int .i64 t569)).setCell ⟨gb580, 1, none⟩ (.slice Ao38 t570.length co38)).setCell ⟨gb580, 2, none⟩ (.slice Ao39 t573.length co39)).setCell ⟨gb580, 3, none⟩ (.slice Ao40 t576.length co40)) w.heap.size (fun _ => True) (.slice Ao38 t570.length co38) t570) := ⟨sqR2 HO572 BK579 BK580⟩
          have n8_ : Aside0 (Kd.R (Kd.int .i64) 3 ((((((((w29.setCell ⟨gb579, 0, none⟩ (.int .i64 t559)).setCell ⟨gb579, 1, none⟩ (.slice Ao33 t560.length co33)).setCell ⟨gb579, 2, none⟩ (.slice Ao34 t563.length co34)).setCell ⟨gb579, 3, none⟩ (.slice Ao35 t566.length co35)).setCell ⟨gb580, 0, none⟩ (.int .i64 t569)).setCell ⟨gb580, 1, none⟩ (.slice Ao38 t570.length co38)).setCell ⟨gb580, 2, none⟩ (.slice Ao39 t573.length co39)).setCell ⟨gb580, 3, none⟩ (.slice Ao40 t576.length co40)) w.heap.size (fun _ => True) (.slice Ao39 t573.length co39) t573) := ⟨sqR2 HO575 BK579 BK580⟩
          have n9_ : Aside0 (Kd.R (Kd.int .i64) 3 ((((((((w29.setCell ⟨gb579, 0, none⟩ (.int .i64 t559)).setCell ⟨gb579, 1, none⟩ (.slice Ao33 t560.length co33)).setCell ⟨gb579, 2, none⟩ (.slice Ao34 t563.length co34)).setCell ⟨gb579, 3, none⟩ (.slice Ao35 t566.length co35)).setCell ⟨gb580, 0, none⟩ (.int .i64 t569)).setCell ⟨gb580, 1, none⟩ (.slice Ao38 t570.length co38)).setCell ⟨gb580, 2, none⟩ (.slice Ao39 t573.length co39)).setCell ⟨gb580, 3, none⟩ (.slice Ao40 t576.length co40)) w.heap.size (fun _ => True) (.slice Ao40 t576.length co40) t576) := ⟨sqR2 HO578 BK579 BK580⟩
          have n10_ : Aside0 (((((((((w29.setCell ⟨gb579, 0, none⟩ (.int .i64 t559)).setCell ⟨gb579, 1, none⟩ (.slice Ao33 t560.length co33)).setCell ⟨gb579, 2, none⟩ (.slice Ao34 t563.length co34)).setCell ⟨gb579, 3, none⟩ (.slice Ao35 t566.length co35)).setCell ⟨gb580, 0, none⟩ (.int .i64 t569)).setCell ⟨gb580, 1, none⟩ (.slice Ao38 t570.length co38)).setCell ⟨gb580, 2, none⟩ (.slice Ao39 t573.length co39)).setCell ⟨gb580, 3, none⟩ (.slice Ao40 t576.length co40)).heap[gb555]? = some (.cells #[.int .i64 t542, .slice Ao10 t543.length co10, .slice Ao11 t546.length co11, .slice Ao12 t549.length co12] 33 (0, 0))) := ⟨bp BK555⟩
          have n11_ : Aside0 (((((((((w29.setCell ⟨gb579, 0, none⟩ (.int .i64 t559)).setCell ⟨gb579, 1, none⟩ (.slice Ao33 t560.length co33)).setCell ⟨gb579, 2, none⟩ (.slice Ao34 t563.length co34)).setCell ⟨gb579, 3, none⟩ (.slice Ao35 t566.length co35)).setCell ⟨gb580, 0, none⟩ (.int .i64 t569)).setCell ⟨gb580, 1, none⟩ (.slice Ao38 t570.length co38)).setCell ⟨gb580, 2, none⟩ (.slice Ao39 t573.length co39)).setCell ⟨gb580, 3, none⟩ (.slice Ao40 t576.length co40)).heap[gb579]? = some (.cells #[.int .i64 t559, .slice Ao33 t560.length co33, .slice Ao34 t563.length co34, .slice Ao35 t566.length co35] 33 (0, 0))) := ⟨bp BK579⟩
          have n12_ : Aside0 (((((((((w29.setCell ⟨gb579, 0, none⟩ (.int .i64 t559)).setCell ⟨gb579, 1, none⟩ (.slice Ao33 t560.length co33)).setCell ⟨gb579, 2, none⟩ (.slice Ao34 t563.length co34)).setCell ⟨gb579, 3, none⟩ (.slice Ao35 t566.length co35)).setCell ⟨gb580, 0, none⟩ (.int .i64 t569)).setCell ⟨gb580, 1, none⟩ (.slice Ao38 t570.length co38)).setCell ⟨gb580, 2, none⟩ (.slice Ao39 t573.length co39)).setCell ⟨gb580, 3, none⟩ (.slice Ao40 t576.length co40)).heap[gb580]? = some (.cells #[.int .i64 t569, .slice Ao38 t570.length co38, .slice Ao39 t573.length co39, .slice Ao40 t576.length co40] 33 (0, 0))) := ⟨bp BK580⟩
          have n13_ : Aside0 (Below w.heap.size w ((((((((w29.setCell ⟨gb579, 0, none⟩ (.int .i64 t559)).setCell ⟨gb579, 1, none⟩ (.slice Ao33 t560.length co33)).setCell ⟨gb579, 2, none⟩ (.slice Ao34 t563.length co34)).setCell ⟨gb579, 3, none⟩ (.slice Ao35 t566.length co35)).setCell ⟨gb580, 0, none⟩ (.int .i64 t569)).setCell ⟨gb580, 1, none⟩ (.slice Ao38 t570.length co38)).setCell ⟨gb580, 2, none⟩ (.slice Ao39 t573.length co39)).setCell ⟨gb580, 3, none⟩ (.slice Ao40 t576.length co40))) := ⟨sqh⟩
          (try clear HO_4)
          (try clear HO_556001)
          (try clear HO_556002)
          (try clear HO_556003)
          (try clear HO562)
          (try clear HO565)
          (try clear HO568)
          (try clear HO572)
          (try clear HO575)
          (try clear HO578)
          (try clear BK555)
          (try clear BK579)
          (try clear BK580)
          (try clear HB)
          generalize ((((((((w29.setCell ⟨gb579, 0, none⟩ (.int .i64 t559)).setCell ⟨gb579, 1, none⟩ (.slice Ao33 t560.length co33)).setCell ⟨gb579, 2, none⟩ (.slice Ao34 t563.length co34)).setCell ⟨gb579, 3, none⟩ (.slice Ao35 t566.length co35)).setCell ⟨gb580, 0, none⟩ (.int .i64 t569)).setCell ⟨gb580, 1, none⟩ (.slice Ao38 t570.length co38)).setCell ⟨gb580, 2, none⟩ (.slice Ao39 t573.length co39)).setCell ⟨gb580, 3, none⟩ (.slice Ao40 t576.length co40)) = w58 at n0_ n1_ n2_ n3_ n4_ n5_ n6_ n7_ n8_ n9_ n10_ n11_ n12_ n13_ ⊢
          have HO_4 := n0_
          have HO_556001 := n1_
          have HO_556002 := n2_
          have HO_556003 := n3_
          have HO562 := n4_
          have HO565 := n5_
          have HO568 := n6_
          have HO572 := n7_
          have HO575 := n8_
          have HO578 := n9_
          have BK555 := n10_
          have BK579 := n11_
          have BK580 := n12_
          have HB := n13_
          clear n0_ n1_ n2_ n3_ n4_ n5_ n6_ n7_ n8_ n9_ n10_ n11_ n12_ n13_
          replace HO_4 := Aside0.mk (Kd.R_drew HO_4.out)
          replace HO_556001 := Aside0.mk (Kd.R_drew HO_556001.out)
          replace HO_556002 := Aside0.mk (Kd.R_drew HO_556002.out)
          replace HO_556003 := Aside0.mk (Kd.R_drew HO_556003.out)
          replace HO562 := Aside0.mk (Kd.R_drew HO562.out)
          replace HO565 := Aside0.mk (Kd.R_drew HO565.out)
          replace HO568 := Aside0.mk (Kd.R_drew HO568.out)
          replace HO572 := Aside0.mk (Kd.R_drew HO572.out)
          replace HO575 := Aside0.mk (Kd.R_drew HO575.out)
          replace HO578 := Aside0.mk (Kd.R_drew HO578.out)
          replace BK555 := Aside0.mk (blk_drew BK555.out)
          replace BK579 := Aside0.mk (blk_drew BK579.out)
          replace BK580 := Aside0.mk (blk_drew BK580.out)
          replace HB := Aside0.mk (below_drew1 HB.out)
          refine start_ (n := 20) (S := fun w' => w'.cell? ⟨gb579, 0, none⟩ = some (.int .i64 t559) ∧ w'.cell? ⟨gb579, 1, none⟩ = some (.slice Ao33 t560.length co33) ∧ w'.cell? ⟨gb579, 2, none⟩ = some (.slice Ao34 t563.length co34) ∧ w'.cell? ⟨gb579, 3, none⟩ = some (.slice Ao35 t566.length co35) ∧ w'.cell? ⟨gb580, 0, none⟩ = some (.int .i64 t569) ∧ w'.cell? ⟨gb580, 1, none⟩ = some (.slice Ao38 t570.length co38) ∧ w'.cell? ⟨gb580, 2, none⟩ = some (.slice Ao39 t573.length co39) ∧ w'.cell? ⟨gb580, 3, none⟩ = some (.slice Ao40 t576.length co40)) (ds := []) #[false, false, false, false, false, false, false, false, false, false, false, false, false, false, false, false, false, false, false, false] sqk rfl rfl (sa4 BK579.out (sc4 BK580.out)) (fun hHeld => ?_); refine with_tabW laws_FnAppraisal.tab14 laws_FnAppraisal.bits14 (fun HT_ HW_ => ?_)
          generalize w58.drew = w59 at HO_4 HO_556001 HO_556002 HO_556003 HO562 HO565 HO568 HO572 HO575 HO578 BK555 BK579 BK580 HB hHeld ⊢
          refine pu 0 65 ?_; refine pu 1 66 ?_; refine pu 2 67 ?_; refine ta 3 68 ?_; refine ta 4 69 ?_
          refine on 5 (some 70) (fun K hK => ?_)
          refine goes_ Try.func26 sqk rfl #[.agg #[.int .i64 t559, .slice Ao33 t560.length co33, .slice Ao34 t563.length co34, .slice Ao35 t566.length co35], .agg #[.int .i64 t569, .slice Ao38 t570.length co38, .slice Ao39 t573.length co39, .slice Ao40 t576.length co40]] (by rfl) rfl rfl sqm ?_
          with_reducible refine (impl_IsStricter.calls k2 t559 _ _ t560 _ _ t563 _ _ t566 t569 _ _ t570 _ _ t573 _ _ t576 false _ ?side1 ?side2 ?side3 ?side4 ?side5 ?side6 ?side7 ?side8 ?side9 ?side10 ?side11 ?side12 A42.out).mono ?_
          (case side1 => repeat (first | exact (Kd.R_reads' HO562.out).2.2 | (with_reducible refine Kd.C_alloc ?_ _) | (with_reducible refine Kd.C_drewN ?_ _) | (with_reducible refine Kd.C_drew ?_)))
          (case side2 => exact (Kd.R_reads' HO562.out).2.1)
          (case side3 => repeat (first | exact (Kd.R_reads' HO565.out).2.2 | (with_reducible refine Kd.C_alloc ?_ _) | (with_reducible refine Kd.C_drewN ?_ _) | (with_reducible refine Kd.C_drew ?_)))
          (case side4 => exact (Kd.R_reads' HO565.out).2.1)
          (case side5 => repeat (first | exact (Kd.R_reads' HO568.out).2.2 | (with_reducible refine Kd.C_alloc ?_ _) | (with_reducible refine Kd.C_drewN ?_ _) | (with_reducible refine Kd.C_drew ?_)))
          (case side6 => exact (Kd.R_reads' HO568.out).2.1)
          (case side7 => repeat (first | exact (Kd.R_reads' HO572.out).2.2 | (with_reducible refine Kd.C_alloc ?_ _) | (with_reducible refine Kd.C_drewN ?_ _) | (with_reducible refine Kd.C_drew ?_)))
          (case side8 => exact (Kd.R_reads' HO572.out).2.1)
          (case side9 => repeat (first | exact (Kd.R_reads' HO575.out).2.2 | (with_reducible refine Kd.C_alloc ?_ _) | (with_reducible refine Kd.C_drewN ?_ _) | (with_reducible refine Kd.C_drew ?_)))
          (case side10 => exact (Kd.R_reads' HO575.out).2.1)
          (case side11 => repeat (first | exact (Kd.R_reads' HO578.out).2.2 | (with_reducible refine Kd.C_alloc ?_ _) | (with_reducible refine Kd.C_drewN ?_ _) | (with_reducible refine Kd.C_drew ?_)))
          (case side12 => exact (Kd.R_reads' HO578.out).2.1)
          rintro e w60 ⟨rfl, hb⟩
          refine ⟨_, rfl, ?_⟩
          replace HO_4 := Aside0.mk (Kd.R_below (sqq HO_4.out) hb)
          replace HO_556001 := Aside0.mk (Kd.R_below (sqq HO_556001.out) hb)
          replace HO_556002 := Aside0.mk (Kd.R_below (sqq HO_556002.out) hb)
          replace HO_556003 := Aside0.mk (Kd.R_below (sqq HO_556003.out) hb)
          replace HO562 := Aside0.mk (Kd.R_below (sqq HO562.out) hb)
          replace HO565 := Aside0.mk (Kd.R_below (sqq HO565.out) hb)
          replace HO568 := Aside0.mk (Kd.R_below (sqq HO568.out) hb)
          replace HO572 := Aside0.mk (Kd.R_below (sqq HO572.out) hb)
          replace HO575 := Aside0.mk (Kd.R_below (sqq HO575.out) hb)
          replace HO578 := Aside0.mk (Kd.R_below (sqq HO578.out) hb)
          replace BK555 := Aside0.mk (blk_below (bo BK555) hb)
          replace BK579 := Aside0.mk (blk_below (bo BK579) hb)
          replace BK580 := Aside0.mk (blk_below (bo BK580) hb)
          replace HB := Aside0.mk (below_step sqh hb)
          (try clear hb)
          (try clear hb2)
          (try clear hk)
          (try clear hi)
          refine hK.out _ _ (sa4 BK579.out (sc4 BK580.out)) (fun hHeld => ?_)
          clear hK K; refine no 70 ?_; refine pu 6 71 ?_
          refine pure_ (i := 7) (N := some 72) (v := undef) (a' := ?_) #[true, true, true, true, true, true, true, true, false, false, false, false, false, false, false, false, false, false, false, false] rfl rfl (any_of HT_.out sqk) (fun _ _ _ h => h) (Or.inr ⟨by rfl, rfl⟩) ?_ ?_
          rotate_left
          ·simp only [Act.put, List.setIfInBounds_toArray, List.set_cons_zero, List.set_cons_succ, i64_w, i32_w]
           rfl
          refine pure_ (i := 8) (N := some 73) (v := undef) (a' := ?_) #[true, true, true, true, true, true, true, true, true, false, false, false, false, false, false, false, false, false, false, false] rfl rfl (any_of HT_.out sqk) (fun _ _ _ h => h) (Or.inr ⟨by rfl, rfl⟩) ?_ ?_
          rotate_left
          ·simp only [Act.put, List.setIfInBounds_toArray, List.set_cons_zero, List.set_cons_succ, i64_w, i32_w]
           rfl
          refine pu 9 74 ?_; refine pu 10 75 ?_
          refine pure_ (i := 11) (N := some 76) (v := undef) (a' := ?_) #[true, true, true, true, true, true, true, true, true, true, true, true, false, false, false, false, false, false, false, false] rfl rfl (any_of HT_.out sqk) (fun _ _ _ h => h) (Or.inr ⟨by rfl, rfl⟩) ?_ ?_
          rotate_left
          ·simp only [Act.put, List.setIfInBounds_toArray, List.set_cons_zero, List.set_cons_succ, i64_w, i32_w]
           rfl
          refine pure_ (i := 12) (N := some 77) (v := undef) (a' := ?_) #[true, true, true, true, true, true, true, true, true, true, true, true, true, false, false, false, false, false, false, false] rfl rfl (any_of HT_.out sqk) (fun _ _ _ h => h) (Or.inr ⟨by rfl, rfl⟩) ?_ ?_
          rotate_left
          ·simp only [Act.put, List.setIfInBounds_toArray, List.set_cons_zero, List.set_cons_succ, i64_w, i32_w]
           rfl
          refine pure_ (i := 13) (N := some 78) (v := undef) (a' := ?_) #[true, true, true, true, true, true, true, true, true, true, true, true, true, true, false, false, false, false, false, false] rfl rfl (any_of HT_.out sqk) (fun _ _ _ h => h) (Or.inr ⟨by rfl, rfl⟩) ?_ ?_
          rotate_left
          ·simp only [Act.put, List.setIfInBounds_toArray, List.set_cons_zero, List.set_cons_succ, i64_w, i32_w]
           rfl
          refine pure_ (i := 14) (N := some 79) (v := undef) (a' := ?_) #[true, true, true, true, true, true, true, true, true, true, true, true, true, true, true, false, false, false, false, false] rfl rfl (any_of HT_.out sqk) (fun _ _ _ h => h) (Or.inr ⟨by rfl, rfl⟩) ?_ ?_
          rotate_left
          ·simp only [Act.put, List.setIfInBounds_toArray, List.set_cons_zero, List.set_cons_succ, i64_w, i32_w]
           rfl
          refine pure_ (i := 15) (N := some 80) (v := undef) (a' := ?_) #[true, true, true, true, true, true, true, true, true, true, true, true, true, true, true, true, false, false, false, false] rfl rfl (any_of HT_.out sqk) (fun _ _ _ h => h) (Or.inr ⟨by rfl, rfl⟩) ?_ ?_
          rotate_left
          ·simp only [Act.put, List.setIfInBounds_toArray, List.set_cons_zero, List.set_cons_succ, i64_w, i32_w]
           rfl
          refine pure_ (i := 16) (N := some 81) (v := undef) (a' := ?_) #[true, true, true, true, true, true, true, true, true, true, true, true, true, true, true, true, true, false, false, false] rfl rfl (any_of HT_.out sqk) (fun _ _ _ h => h) (Or.inr ⟨by rfl, rfl⟩) ?_ ?_
          rotate_left
          ·simp only [Act.put, List.setIfInBounds_toArray, List.set_cons_zero, List.set_cons_succ, i64_w, i32_w]
           rfl
          refine pure_ (i := 17) (N := some 82) (v := undef) (a' := ?_) #[true, true, true, true, true, true, true, true, true, true, true, true, true, true, true, true, true, true, false, false] rfl rfl (any_of HT_.out sqk) (fun _ _ _ h => h) (Or.inr ⟨by rfl, rfl⟩) ?_ ?_
          rotate_left
          ·simp only [Act.put, List.setIfInBounds_toArray, List.set_cons_zero, List.set_cons_succ, i64_w, i32_w]
           rfl
          refine pu 18 83 ?_; refine pu 19 84 ?_
          refine dn ?_
          try go_wp2
          go_meet
          case rel => exact ⟨_, (false), sqr, H', ⟨by have := HJ5.out; have := HK2.out; first | omega | exact Nat.le_refl _⟩, ⟨sqR0 HO_556001⟩, ⟨sqR0 HO_556002⟩, ⟨sqR0 HO_556003⟩, ⟨sqR0 HO562⟩, ⟨sqR0 HO565⟩, ⟨sqR0 HO568⟩, ⟨sqR0 HO572⟩, ⟨sqR0 HO575⟩, ⟨sqR0 HO578⟩, ⟨sqb BK555.out⟩, ⟨sqb BK579.out⟩, ⟨sqb BK580.out⟩, ⟨sqh⟩⟩
        ·replace c41 := Bool.eq_false_iff.mpr c41
         subst c41
         replace H := iF H
         have H' := Aside0.mk H
         clear H
         try go_wp2
         have n0_ : Aside0 (Kd.R (Kd.int .i64) 3 ((((((((w29.setCell ⟨gb579, 0, none⟩ (.int .i64 t559)).setCell ⟨gb579, 1, none⟩ (.slice Ao33 t560.length co33)).setCell ⟨gb579, 2, none⟩ (.slice Ao34 t563.length co34)).setCell ⟨gb579, 3, none⟩ (.slice Ao35 t566.length co35)).setCell ⟨gb580, 0, none⟩ (.int .i64 t569)).setCell ⟨gb580, 1, none⟩ (.slice Ao38 t570.length co38)).setCell ⟨gb580, 2, none⟩ (.slice Ao39 t573.length co39)).setCell ⟨gb580, 3, none⟩ (.slice Ao40 t576.length co40)) w.heap.size (fun _ => True) (.slice Ao13 t552.length co13) t552) := ⟨sqR2 HO_4 BK579 BK580⟩
         have n1_ : Aside0 (Kd.R (Kd.int .i64) 3 ((((((((w29.setCell ⟨gb579, 0, none⟩ (.int .i64 t559)).setCell ⟨gb579, 1, none⟩ (.slice Ao33 t560.length co33)).setCell ⟨gb579, 2, none⟩ (.slice Ao34 t563.length co34)).setCell ⟨gb579, 3, none⟩ (.slice Ao35 t566.length co35)).setCell ⟨gb580, 0, none⟩ (.int .i64 t569)).setCell ⟨gb580, 1, none⟩ (.slice Ao38 t570.length co38)).setCell ⟨gb580, 2, none⟩ (.slice Ao39 t573.length co39)).setCell ⟨gb580, 3, none⟩ (.slice Ao40 t576.length co40)) w.heap.size (fun _ => True) (.slice Ao10 t543.length co10) t543) := ⟨sqR2 HO_556001 BK579 BK580⟩
         have n2_ : Aside0 (Kd.R (Kd.int .i64) 3 ((((((((w29.setCell ⟨gb579, 0, none⟩ (.int .i64 t559)).setCell ⟨gb579, 1, none⟩ (.slice Ao33 t560.length co33)).setCell ⟨gb579, 2, none⟩ (.slice Ao34 t563.length co34)).setCell ⟨gb579, 3, none⟩ (.slice Ao35 t566.length co35)).setCell ⟨gb580, 0, none⟩ (.int .i64 t569)).setCell ⟨gb580, 1, none⟩ (.slice Ao38 t570.length co38)).setCell ⟨gb580, 2, none⟩ (.slice Ao39 t573.length co39)).setCell ⟨gb580, 3, none⟩ (.slice Ao40 t576.length co40)) w.heap.size (fun _ => True) (.slice Ao11 t546.length co11) t546) := ⟨sqR2 HO_556002 BK579 BK580⟩
         have n3_ : Aside0 (Kd.R (Kd.int .i64) 3 ((((((((w29.setCell ⟨gb579, 0, none⟩ (.int .i64 t559)).setCell ⟨gb579, 1, none⟩ (.slice Ao33 t560.length co33)).setCell ⟨gb579, 2, none⟩ (.slice Ao34 t563.length co34)).setCell ⟨gb579, 3, none⟩ (.slice Ao35 t566.length co35)).setCell ⟨gb580, 0, none⟩ (.int .i64 t569)).setCell ⟨gb580, 1, none⟩ (.slice Ao38 t570.length co38)).setCell ⟨gb580, 2, none⟩ (.slice Ao39 t573.length co39)).setCell ⟨gb580, 3, none⟩ (.slice Ao40 t576.length co40)) w.heap.size (fun _ => True) (.slice Ao12 t549.length co12) t549) := ⟨sqR2 HO_556003 BK579 BK580⟩
         have n4_ : Aside0 (Kd.R (Kd.int .i64) 3 ((((((((w29.setCell ⟨gb579, 0, none⟩ (.int .i64 t559)).setCell ⟨gb579, 1, none⟩ (.slice Ao33 t560.length co33)).setCell ⟨gb579, 2, none⟩ (.slice Ao34 t563.length co34)).setCell ⟨gb579, 3, none⟩ (.slice Ao35 t566.length co35)).setCell ⟨gb580, 0, none⟩ (.int .i64 t569)).setCell ⟨gb580, 1, none⟩ (.slice Ao38 t570.length co38)).setCell ⟨gb580, 2, none⟩ (.slice Ao39 t573.length co39)).setCell ⟨gb580, 3, none⟩ (.slice Ao40 t576.length co40)) w.heap.size (fun _ => True) (.slice Ao33 t560.length co33) t560) := ⟨sqR2 HO562 BK579 BK580⟩
         have n5_ : Aside0 (Kd.R (Kd.int .i64) 3 ((((((((w29.setCell ⟨gb579, 0, none⟩ (.int .i64 t559)).setCell ⟨gb579, 1, none⟩ (.slice Ao33 t560.length co33)).setCell ⟨gb579, 2, none⟩ (.slice Ao34 t563.length co34)).setCell ⟨gb579, 3, none⟩ (.slice Ao35 t566.length co35)).setCell ⟨gb580, 0, none⟩ (.int .i64 t569)).setCell ⟨gb580, 1, none⟩ (.slice Ao38 t570.length co38)).setCell ⟨gb580, 2, none⟩ (.slice Ao39 t573.length co39)).setCell ⟨gb580, 3, none⟩ (.slice Ao40 t576.length co40)) w.heap.size (fun _ => True) (.slice Ao34 t563.length co34) t563) := ⟨sqR2 HO565 BK579 BK580⟩
         have n6_ : Aside0 (Kd.R (Kd.int .i64) 3 ((((((((w29.setCell ⟨gb579, 0, none⟩ (.int .i64 t559)).setCell ⟨gb579, 1, none⟩ (.slice Ao33 t560.length co33)).setCell ⟨gb579, 2, none⟩ (.slice Ao34 t563.length co34)).setCell ⟨gb579, 3, none⟩ (.slice Ao35 t566.length co35)).setCell ⟨gb580, 0, none⟩ (.int .i64 t569)).setCell ⟨gb580, 1, none⟩ (.slice Ao38 t570.length co38)).setCell ⟨gb580, 2, none⟩ (.slice Ao39 t573.length co39)).setCell ⟨gb580, 3, none⟩ (.slice Ao40 t576.length co40)) w.heap.size (fun _ => True) (.slice Ao35 t566.length co35) t566) := ⟨sqR2 HO568 BK579 BK580⟩
         have n7_ : Aside0 (Kd.R (Kd.int .i64) 3 ((((((((w29.setCell ⟨gb579, 0, none⟩ (.int .i64 t559)).setCell ⟨gb579, 1, none⟩ (.slice Ao33 t560.length co33)).setCell ⟨gb579, 2, none⟩ (.slice Ao34 t563.length co34)).setCell ⟨gb579, 3, none⟩ (.slice Ao35 t566.length co35)).setCell ⟨gb580, 0, none⟩ (.int .i64 t569)).setCell ⟨gb580, 1, none⟩ (.slice Ao38 t570.length co38)).setCell ⟨gb580, 2, none⟩ (.slice Ao39 t573.length co39)).setCell ⟨gb580, 3, none⟩ (.slice Ao40 t576.length co40)) w.heap.size (fun _ => True) (.slice Ao38 t570.length co38) t570) := ⟨sqR2 HO572 BK579 BK580⟩
         have n8_ : Aside0 (Kd.R (Kd.int .i64) 3 ((((((((w29.setCell ⟨gb579, 0, none⟩ (.int .i64 t559)).setCell ⟨gb579, 1, none⟩ (.slice Ao33 t560.length co33)).setCell ⟨gb579, 2, none⟩ (.slice Ao34 t563.length co34)).setCell ⟨gb579, 3, none⟩ (.slice Ao35 t566.length co35)).setCell ⟨gb580, 0, none⟩ (.int .i64 t569)).setCell ⟨gb580, 1, none⟩ (.slice Ao38 t570.length co38)).setCell ⟨gb580, 2, none⟩ (.slice Ao39 t573.length co39)).setCell ⟨gb580, 3, none⟩ (.slice Ao40 t576.length co40)) w.heap.size (fun _ => True) (.slice Ao39 t573.length co39) t573) := ⟨sqR2 HO575 BK579 BK580⟩
         have n9_ : Aside0 (Kd.R (Kd.int .i64) 3 ((((((((w29.setCell ⟨gb579, 0, none⟩ (.int .i64 t559)).setCell ⟨gb579, 1, none⟩ (.slice Ao33 t560.length co33)).setCell ⟨gb579, 2, none⟩ (.slice Ao34 t563.length co34)).setCell ⟨gb579, 3, none⟩ (.slice Ao35 t566.length co35)).setCell ⟨gb580, 0, none⟩ (.int .i64 t569)).setCell ⟨gb580, 1, none⟩ (.slice Ao38 t570.length co38)).setCell ⟨gb580, 2, none⟩ (.slice Ao39 t573.length co39)).setCell ⟨gb580, 3, none⟩ (.slice Ao40 t576.length co40)) w.heap.size (fun _ => True) (.slice Ao40 t576.length co40) t576) := ⟨sqR2 HO578 BK579 BK580⟩
         have n10_ : Aside0 (((((((((w29.setCell ⟨gb579, 0, none⟩ (.int .i64 t559)).setCell ⟨gb579, 1, none⟩ (.slice Ao33 t560.length co33)).setCell ⟨gb579, 2, none⟩ (.slice Ao34 t563.length co34)).setCell ⟨gb579, 3, none⟩ (.slice Ao35 t566.length co35)).setCell ⟨gb580, 0, none⟩ (.int .i64 t569)).setCell ⟨gb580, 1, none⟩ (.slice Ao38 t570.length co38)).setCell ⟨gb580, 2, none⟩ (.slice Ao39 t573.length co39)).setCell ⟨gb580, 3, none⟩ (.slice Ao40 t576.length co40)).heap[gb555]? = some (.cells #[.int .i64 t542, .slice Ao10 t543.length co10, .slice Ao11 t546.length co11, .slice Ao12 t549.length co12] 33 (0, 0))) := ⟨bp BK555⟩
         have n11_ : Aside0 (((((((((w29.setCell ⟨gb579, 0, none⟩ (.int .i64 t559)).setCell ⟨gb579, 1, none⟩ (.slice Ao33 t560.length co33)).setCell ⟨gb579, 2, none⟩ (.slice Ao34 t563.length co34)).setCell ⟨gb579, 3, none⟩ (.slice Ao35 t566.length co35)).setCell ⟨gb580, 0, none⟩ (.int .i64 t569)).setCell ⟨gb580, 1, none⟩ (.slice Ao38 t570.length co38)).setCell ⟨gb580, 2, none⟩ (.slice Ao39 t573.length co39)).setCell ⟨gb580, 3, none⟩ (.slice Ao40 t576.length co40)).heap[gb579]? = some (.cells #[.int .i64 t559, .slice Ao33 t560.length co33, .slice Ao34 t563.length co34, .slice Ao35 t566.length co35] 33 (0, 0))) := ⟨bp BK579⟩
         have n12_ : Aside0 (((((((((w29.setCell ⟨gb579, 0, none⟩ (.int .i64 t559)).setCell ⟨gb579, 1, none⟩ (.slice Ao33 t560.length co33)).setCell ⟨gb579, 2, none⟩ (.slice Ao34 t563.length co34)).setCell ⟨gb579, 3, none⟩ (.slice Ao35 t566.length co35)).setCell ⟨gb580, 0, none⟩ (.int .i64 t569)).setCell ⟨gb580, 1, none⟩ (.slice Ao38 t570.length co38)).setCell ⟨gb580, 2, none⟩ (.slice Ao39 t573.length co39)).setCell ⟨gb580, 3, none⟩ (.slice Ao40 t576.length co40)).heap[gb580]? = some (.cells #[.int .i64 t569, .slice Ao38 t570.length co38, .slice Ao39 t573.length co39, .slice Ao40 t576.length co40] 33 (0, 0))) := ⟨bp BK580⟩
         have n13_ : Aside0 (Below w.heap.size w ((((((((w29.setCell ⟨gb579, 0, none⟩ (.int .i64 t559)).setCell ⟨gb579, 1, none⟩ (.slice Ao33 t560.length co33)).setCell ⟨gb579, 2, none⟩ (.slice Ao34 t563.length co34)).setCell ⟨gb579, 3, none⟩ (.slice Ao35 t566.length co35)).setCell ⟨gb580, 0, none⟩ (.int .i64 t569)).setCell ⟨gb580, 1, none⟩ (.slice Ao38 t570.length co38)).setCell ⟨gb580, 2, none⟩ (.slice Ao39 t573.length co39)).setCell ⟨gb580, 3, none⟩ (.slice Ao40 t576.length co40))) := ⟨sqh⟩
         (try clear HO_4)
         (try clear HO_556001)
         (try clear HO_556002)
         (try clear HO_556003)
         (try clear HO562)
         (try clear HO565)
         (try clear HO568)
         (try clear HO572)
         (try clear HO575)
         (try clear HO578)
         (try clear BK555)
         (try clear BK579)
         (try clear BK580)
         (try clear HB)
         generalize ((((((((w29.setCell ⟨gb579, 0, none⟩ (.int .i64 t559)).setCell ⟨gb579, 1, none⟩ (.slice Ao33 t560.length co33)).setCell ⟨gb579, 2, none⟩ (.slice Ao34 t563.length co34)).setCell ⟨gb579, 3, none⟩ (.slice Ao35 t566.length co35)).setCell ⟨gb580, 0, none⟩ (.int .i64 t569)).setCell ⟨gb580, 1, none⟩ (.slice Ao38 t570.length co38)).setCell ⟨gb580, 2, none⟩ (.slice Ao39 t573.length co39)).setCell ⟨gb580, 3, none⟩ (.slice Ao40 t576.length co40)) = w61 at n0_ n1_ n2_ n3_ n4_ n5_ n6_ n7_ n8_ n9_ n10_ n11_ n12_ n13_ ⊢
         have HO_4 := n0_
         have HO_556001 := n1_
         have HO_556002 := n2_
         have HO_556003 := n3_
         have HO562 := n4_
         have HO565 := n5_
         have HO568 := n6_
         have HO572 := n7_
         have HO575 := n8_
         have HO578 := n9_
         have BK555 := n10_
         have BK579 := n11_
         have BK580 := n12_
         have HB := n13_
         clear n0_ n1_ n2_ n3_ n4_ n5_ n6_ n7_ n8_ n9_ n10_ n11_ n12_ n13_
         replace HO_4 := Aside0.mk (Kd.R_drew HO_4.out)
         replace HO_556001 := Aside0.mk (Kd.R_drew HO_556001.out)
         replace HO_556002 := Aside0.mk (Kd.R_drew HO_556002.out)
         replace HO_556003 := Aside0.mk (Kd.R_drew HO_556003.out)
         replace HO562 := Aside0.mk (Kd.R_drew HO562.out)
         replace HO565 := Aside0.mk (Kd.R_drew HO565.out)
         replace HO568 := Aside0.mk (Kd.R_drew HO568.out)
         replace HO572 := Aside0.mk (Kd.R_drew HO572.out)
         replace HO575 := Aside0.mk (Kd.R_drew HO575.out)
         replace HO578 := Aside0.mk (Kd.R_drew HO578.out)
         replace BK555 := Aside0.mk (blk_drew BK555.out)
         replace BK579 := Aside0.mk (blk_drew BK579.out)
         replace BK580 := Aside0.mk (blk_drew BK580.out)
         replace HB := Aside0.mk (below_drew1 HB.out)
         refine start_ (n := 20) (S := fun w' => True) (ds := []) #[false, false, false, false, false, false, false, false, false, false, false, false, false, false, false, false, false, false, false, false] sqk rfl rfl trivial (fun hHeld => ?_); refine with_tabW laws_FnAppraisal.tab14 laws_FnAppraisal.bits14 (fun HT_ HW_ => ?_)
         generalize w61.drew = w62 at HO_4 HO_556001 HO_556002 HO_556003 HO562 HO565 HO568 HO572 HO575 HO578 BK555 BK579 BK580 HB hHeld ⊢
         refine pu 0 65 ?_; refine pu 1 66 ?_; refine pu 2 67 ?_
         refine pure_ (i := 3) (N := some 68) (v := undef) (a' := ?_) #[true, true, true, true, false, false, false, false, false, false, false, false, false, false, false, false, false, false, false, false] rfl rfl (any_of HT_.out sqk) (fun _ _ _ h => h) (Or.inr ⟨by rfl, rfl⟩) ?_ ?_
         rotate_left
         ·simp only [Act.put, List.setIfInBounds_toArray, List.set_cons_zero, List.set_cons_succ, i64_w, i32_w]
          rfl
         refine pure_ (i := 4) (N := some 69) (v := undef) (a' := ?_) #[true, true, true, true, true, false, false, false, false, false, false, false, false, false, false, false, false, false, false, false] rfl rfl (any_of HT_.out sqk) (fun _ _ _ h => h) (Or.inr ⟨by rfl, rfl⟩) ?_ ?_
         rotate_left
         ·simp only [Act.put, List.setIfInBounds_toArray, List.set_cons_zero, List.set_cons_succ, i64_w, i32_w]
          rfl
         refine pure_ (i := 5) (N := some 70) (v := undef) (a' := ?_) #[true, true, true, true, true, true, false, false, false, false, false, false, false, false, false, false, false, false, false, false] rfl rfl (any_of HT_.out sqk) (fun _ _ _ h => h) (Or.inr ⟨by rfl, rfl⟩) ?_ ?_
         rotate_left
         ·simp only [Act.put, List.setIfInBounds_toArray, List.set_cons_zero, List.set_cons_succ, i64_w, i32_w]
          rfl
         refine pure_ (i := 6) (N := some 71) (v := undef) (a' := ?_) #[true, true, true, true, true, true, true, false, false, false, false, false, false, false, false, false, false, false, false, false] rfl rfl (any_of HT_.out sqk) (fun _ _ _ h => h) (Or.inr ⟨by rfl, rfl⟩) ?_ ?_
         rotate_left
         ·simp only [Act.put, List.setIfInBounds_toArray, List.set_cons_zero, List.set_cons_succ, i64_w, i32_w]
          rfl
         refine pure_ (i := 7) (N := some 72) (v := undef) (a' := ?_) #[true, true, true, true, true, true, true, true, false, false, false, false, false, false, false, false, false, false, false, false] rfl rfl (any_of HT_.out sqk) (fun _ _ _ h => h) (Or.inr ⟨by rfl, rfl⟩) ?_ ?_
         rotate_left
         ·simp only [Act.put, List.setIfInBounds_toArray, List.set_cons_zero, List.set_cons_succ, i64_w, i32_w]
          rfl
         refine pure_ (i := 8) (N := some 73) (v := undef) (a' := ?_) #[true, true, true, true, true, true, true, true, true, false, false, false, false, false, false, false, false, false, false, false] rfl rfl (any_of HT_.out sqk) (fun _ _ _ h => h) (Or.inr ⟨by rfl, rfl⟩) ?_ ?_
         rotate_left
         ·simp only [Act.put, List.setIfInBounds_toArray, List.set_cons_zero, List.set_cons_succ, i64_w, i32_w]
          rfl
         refine pure_ (i := 9) (N := some 74) (v := undef) (a' := ?_) #[true, true, true, true, true, true, true, true, true, true, false, false, false, false, false, false, false, false, false, false] rfl rfl (any_of HT_.out sqk) (fun _ _ _ h => h) (Or.inr ⟨by rfl, rfl⟩) ?_ ?_
         rotate_left
         ·simp only [Act.put, List.setIfInBounds_toArray, List.set_cons_zero, List.set_cons_succ, i64_w, i32_w]
          rfl
         refine pure_ (i := 10) (N := some 75) (v := undef) (a' := ?_) #[true, true, true, true, true, true, true, true, true, true, true, false, false, false, false, false, false, false, false, false] rfl rfl (any_of HT_.out sqk) (fun _ _ _ h => h) (Or.inr ⟨by rfl, rfl⟩) ?_ ?_
         rotate_left
         ·simp only [Act.put, List.setIfInBounds_toArray, List.set_cons_zero, List.set_cons_succ, i64_w, i32_w]
          rfl
         refine pure_ (i := 11) (N := some 76) (v := undef) (a' := ?_) #[true, true, true, true, true, true, true, true, true, true, true, true, false, false, false, false, false, false, false, false] rfl rfl (any_of HT_.out sqk) (fun _ _ _ h => h) (Or.inr ⟨by rfl, rfl⟩) ?_ ?_
         rotate_left
         ·simp only [Act.put, List.setIfInBounds_toArray, List.set_cons_zero, List.set_cons_succ, i64_w, i32_w]
          rfl
         refine pure_ (i := 12) (N := some 77) (v := undef) (a' := ?_) #[true, true, true, true, true, true, true, true, true, true, true, true, true, false, false, false, false, false, false, false] rfl rfl (any_of HT_.out sqk) (fun _ _ _ h => h) (Or.inr ⟨by rfl, rfl⟩) ?_ ?_
         rotate_left
         ·simp only [Act.put, List.setIfInBounds_toArray, List.set_cons_zero, List.set_cons_succ, i64_w, i32_w]
          rfl
         refine pure_ (i := 13) (N := some 78) (v := undef) (a' := ?_) #[true, true, true, true, true, true, true, true, true, true, true, true, true, true, false, false, false, false, false, false] rfl rfl (any_of HT_.out sqk) (fun _ _ _ h => h) (Or.inr ⟨by rfl, rfl⟩) ?_ ?_
         rotate_left
         ·simp only [Act.put, List.setIfInBounds_toArray, List.set_cons_zero, List.set_cons_succ, i64_w, i32_w]
          rfl
         refine pure_ (i := 14) (N := some 79) (v := undef) (a' := ?_) #[true, true, true, true, true, true, true, true, true, true, true, true, true, true, true, false, false, false, false, false] rfl rfl (any_of HT_.out sqk) (fun _ _ _ h => h) (Or.inr ⟨by rfl, rfl⟩) ?_ ?_
         rotate_left
         ·simp only [Act.put, List.setIfInBounds_toArray, List.set_cons_zero, List.set_cons_succ, i64_w, i32_w]
          rfl
         refine pure_ (i := 15) (N := some 80) (v := undef) (a' := ?_) #[true, true, true, true, true, true, true, true, true, true, true, true, true, true, true, true, false, false, false, false] rfl rfl (any_of HT_.out sqk) (fun _ _ _ h => h) (Or.inr ⟨by rfl, rfl⟩) ?_ ?_
         rotate_left
         ·simp only [Act.put, List.setIfInBounds_toArray, List.set_cons_zero, List.set_cons_succ, i64_w, i32_w]
          rfl
         refine pure_ (i := 16) (N := some 81) (v := undef) (a' := ?_) #[true, true, true, true, true, true, true, true, true, true, true, true, true, true, true, true, true, false, false, false] rfl rfl (any_of HT_.out sqk) (fun _ _ _ h => h) (Or.inr ⟨by rfl, rfl⟩) ?_ ?_
         rotate_left
         ·simp only [Act.put, List.setIfInBounds_toArray, List.set_cons_zero, List.set_cons_succ, i64_w, i32_w]
          rfl
         refine pure_ (i := 17) (N := some 82) (v := undef) (a' := ?_) #[true, true, true, true, true, true, true, true, true, true, true, true, true, true, true, true, true, true, false, false] rfl rfl (any_of HT_.out sqk) (fun _ _ _ h => h) (Or.inr ⟨by rfl, rfl⟩) ?_ ?_
         rotate_left
         ·simp only [Act.put, List.setIfInBounds_toArray, List.set_cons_zero, List.set_cons_succ, i64_w, i32_w]
          rfl
         refine pure_ (i := 18) (N := some 83) (v := undef) (a' := ?_) #[true, true, true, true, true, true, true, true, true, true, true, true, true, true, true, true, true, true, true, false] rfl rfl (any_of HT_.out sqk) (fun _ _ _ h => h) (Or.inr ⟨by rfl, rfl⟩) ?_ ?_
         rotate_left
         ·simp only [Act.put, List.setIfInBounds_toArray, List.set_cons_zero, List.set_cons_succ, i64_w, i32_w]
          rfl
         refine pu 19 84 ?_
         refine dn ?_
         try go_wp2
         go_meet
         case rel => exact ⟨_, (true), sqr, H', ⟨by have := HJ5.out; have := HK2.out; first | omega | exact Nat.le_refl _⟩, ⟨sqR0 HO_556001⟩, ⟨sqR0 HO_556002⟩, ⟨sqR0 HO_556003⟩, ⟨sqR0 HO562⟩, ⟨sqR0 HO565⟩, ⟨sqR0 HO568⟩, ⟨sqR0 HO572⟩, ⟨sqR0 HO575⟩, ⟨sqR0 HO578⟩, ⟨sqb BK555.out⟩, ⟨sqb BK579.out⟩, ⟨sqb BK580.out⟩, ⟨sqh⟩⟩
       case rest =>
        clear HC26; try clear c2; try clear p2; try clear c4; try clear c26; try clear c41; try clear c43
        obtain ⟨kq, x84_25, rfl, HA, HJ25, HO_556001, HO_556002, HO_556003, HO_580001, HO_580002, HO_580003, HO_581001, HO_581002, HO_581003, BK555, BK579, BK580, HB⟩ := hcut
        cases kq with
        | zero => exact absurd HA.out (by simp [laws_FnAppraisal.j2])
        | succ kj25 =>
         have H := HA.out
         clear HA
         simp only [laws_FnAppraisal.j2] at H
         by_cases c63 : x84_25 = true
         ·subst c63
          replace H := iT H
          exact absurd ((Option.some.inj H).trans hr_.out) (by decide)
         ·replace c63 := Bool.eq_false_iff.mpr c63
          subst c63
          replace H := iF H
          obtain ⟨⟨t585, t586, t589, t592, t595, t596, t597, t598, t599, t600, t601, t604, t605, t606⟩, A64, H⟩ := bA H
          dsimp only at H
          obtain ⟨⟨t609, t610, t611, t612, t613, t614, t615⟩, A65, H⟩ := bA H
          dsimp only at H
          have HC66 := Aside0.mk H
          clear H
          go_upto_region 18 with (first | ((with_reducible refine gate_callee (f := 61) rfl ?_); refine goesL_ (some 87) rfl rfl Try.func61 sqk rfl #[.slice A0 l0.length c0] rfl sqm ?_; (with_reducible refine (spec_DrawHealthFact.calls kj25 _ _ l0 t585 t586 t589 t592 t595 t596 t597 t598 t599 t600 t601 t604 t605 t606 _ ?side1 ?side2 A64.out).mono ?_); (case side1 => exact sqn (Kd.C_below HR0.out HB.out)); (case side2 => exact HC0.out); rintro e w67 ⟨v587, v590, v593, v602, rfl, ho0, ho1, ho2, ho3, hb⟩; refine ⟨_, rfl, ?_⟩; replace HO_556001 := Aside0.mk (Kd.R_below (sqq HO_556001.out) hb); replace HO_556002 := Aside0.mk (Kd.R_below (sqq HO_556002.out) hb); replace HO_556003 := Aside0.mk (Kd.R_below (sqq HO_556003.out) hb); replace HO_580001 := Aside0.mk (Kd.R_below (sqq HO_580001.out) hb); replace HO_580002 := Aside0.mk (Kd.R_below (sqq HO_580002.out) hb); replace HO_580003 := Aside0.mk (Kd.R_below (sqq HO_580003.out) hb); replace HO_581001 := Aside0.mk (Kd.R_below (sqq HO_581001.out) hb); replace HO_581002 := Aside0.mk (Kd.R_below (sqq HO_581002.out) hb); replace HO_581003 := Aside0.mk (Kd.R_below (sqq HO_581003.out) hb); have HO588 := Aside0.mk (Kd.R_mono (ok' := fun _ => True) (Kd.R_lower ho0 (below_size sqh)) (fun _ _ => trivial)); have HO591 := Aside0.mk (Kd.R_mono (ok' := fun _ => True) (Kd.R_lower ho1 (below_size sqh)) (fun _ _ => trivial)); have HO594 := Aside0.mk (Kd.R_mono (ok' := fun _ => True) (Kd.R_lower ho2 (below_size sqh)) (fun _ _ => trivial)); have HO603 := Aside0.mk (Kd.R_mono (ok' := fun _ => True) (Kd.R_lower ho3 (below_size sqh)) (fun _ _ => trivial)); replace BK555 := Aside0.mk (blk_below (bo BK555) hb); replace BK579 := Aside0.mk (blk_below (bo BK579) hb); replace BK580 := Aside0.mk (blk_below (bo BK580) hb); replace HB := Aside0.mk (below_step sqh hb); (try clear hb); (try clear ho0); (try clear ho1); (try clear ho2); (try clear ho3)) | ((with_reducible refine gate_dst (N := 11) rfl ?_); refine bx (N := 11) (cs := #[.int .i64 0, .slice none 0 0, .slice none 0 0, .slice none 0 0]) (t := 33) ?_; intro gb607 hg w68 hbox hb; replace HO_556001 := Aside0.mk (Kd.R_below (sqq HO_556001.out) hb); replace HO_556002 := Aside0.mk (Kd.R_below (sqq HO_556002.out) hb); replace HO_556003 := Aside0.mk (Kd.R_below (sqq HO_556003.out) hb); replace HO_580001 := Aside0.mk (Kd.R_below (sqq HO_580001.out) hb); replace HO_580002 := Aside0.mk (Kd.R_below (sqq HO_580002.out) hb); replace HO_580003 := Aside0.mk (Kd.R_below (sqq HO_580003.out) hb); replace HO_581001 := Aside0.mk (Kd.R_below (sqq HO_581001.out) hb); replace HO_581002 := Aside0.mk (Kd.R_below (sqq HO_581002.out) hb); replace HO_581003 := Aside0.mk (Kd.R_below (sqq HO_581003.out) hb); replace HO588 := Aside0.mk (Kd.R_below (sqq HO588.out) hb); replace HO591 := Aside0.mk (Kd.R_below (sqq HO591.out) hb); replace HO594 := Aside0.mk (Kd.R_below (sqq HO594.out) hb); replace HO603 := Aside0.mk (Kd.R_below (sqq HO603.out) hb); have BK607 := Aside0.mk (hbox); have GW607 := Aside0.mk ((z13_0 : w.heap.size ≤ gb607)); have GE607 := Aside0.mk ((z13_0 : w.heap.size ≤ gb607)); replace HB := Aside0.mk (below_step sqh hb); have NB555_607 := Aside0.mk ((z13_1 : gb555 ≠ gb607)); have NB607_555 := Aside0.mk ((z13_2 : gb607 ≠ gb555)); replace BK555 := Aside0.mk (blk_below (bo BK555) hb); have NB579_607 := Aside0.mk ((z13_3 : gb579 ≠ gb607)); have NB607_579 := Aside0.mk ((z13_4 : gb607 ≠ gb579)); replace BK579 := Aside0.mk (blk_below (bo BK579) hb); have NB580_607 := Aside0.mk ((by rw [hg]; exact Nat.ne_of_lt (blk_lt (bo BK580)) : gb580 ≠ gb607)); have NB607_580 := Aside0.mk ((by rw [hg]; exact Nat.ne_of_gt (blk_lt (bo BK580)) : gb607 ≠ gb580)); replace BK580 := Aside0.mk (blk_below (bo BK580) hb); clear hb hbox hg) | ((with_reducible refine gate_dst (N := 13) rfl ?_); refine bx (N := 13) (cs := #[.int .i64 0, .int .i64 0, .int .i64 0, .int .i64 0, .int .i64 0]) (t := 45) ?_; intro gb608 hg w69 hbox hb; replace HO_556001 := Aside0.mk (Kd.R_below (sqq HO_556001.out) hb); replace HO_556002 := Aside0.mk (Kd.R_below (sqq HO_556002.out) hb); replace HO_556003 := Aside0.mk (Kd.R_below (sqq HO_556003.out) hb); replace HO_580001 := Aside0.mk (Kd.R_below (sqq HO_580001.out) hb); replace HO_580002 := Aside0.mk (Kd.R_below (sqq HO_580002.out) hb); replace HO_580003 := Aside0.mk (Kd.R_below (sqq HO_580003.out) hb); replace HO_581001 := Aside0.mk (Kd.R_below (sqq HO_581001.out) hb); replace HO_581002 := Aside0.mk (Kd.R_below (sqq HO_581002.out) hb); replace HO_581003 := Aside0.mk (Kd.R_below (sqq HO_581003.out) hb); replace HO588 := Aside0.mk (Kd.R_below (sqq HO588.out) hb); replace HO591 := Aside0.mk (Kd.R_below (sqq HO591.out) hb); replace HO594 := Aside0.mk (Kd.R_below (sqq HO594.out) hb); replace HO603 := Aside0.mk (Kd.R_below (sqq HO603.out) hb); have BK608 := Aside0.mk (hbox); have GW608 := Aside0.mk ((z13_0 : w.heap.size ≤ gb608)); have GE608 := Aside0.mk ((z13_0 : w.heap.size ≤ gb608)); replace HB := Aside0.mk (below_step sqh hb); have NB555_608 := Aside0.mk ((z13_1 : gb555 ≠ gb608)); have NB608_555 := Aside0.mk ((z13_2 : gb608 ≠ gb555)); replace BK555 := Aside0.mk (blk_below (bo BK555) hb); have NB579_608 := Aside0.mk ((z13_3 : gb579 ≠ gb608)); have NB608_579 := Aside0.mk ((z13_4 : gb608 ≠ gb579)); replace BK579 := Aside0.mk (blk_below (bo BK579) hb); have NB580_608 := Aside0.mk ((by rw [hg]; exact Nat.ne_of_lt (blk_lt (bo BK580)) : gb580 ≠ gb608)); have NB608_580 := Aside0.mk ((by rw [hg]; exact Nat.ne_of_gt (blk_lt (bo BK580)) : gb608 ≠ gb580)); replace BK580 := Aside0.mk (blk_below (bo BK580) hb); have NB607_608 := Aside0.mk ((by rw [hg]; exact Nat.ne_of_lt (blk_lt (bo BK607)) : gb607 ≠ gb608)); have NB608_607 := Aside0.mk ((by rw [hg]; exact Nat.ne_of_gt (blk_lt (bo BK607)) : gb608 ≠ gb607)); replace BK607 := Aside0.mk (blk_below (bo BK607) hb); clear hb hbox hg; have hnb70 := NB607_555.out; have hnc70 := NB555_607.out; have hnb71 := NB607_579.out; have hnc71 := NB579_607.out; have hnb72 := NB607_580.out; have hnc72 := NB580_607.out; have hnb73 := NB607_608.out; have hnc73 := NB608_607.out; obtain ⟨hcz74_0, hcz74_1, hcz74_2, hcz74_3, hfz74_0, hfz74_1, hfz74_2, hfz74_3⟩ := sd4 BK607.out; obtain ⟨Ao75, co75, eo75⟩ := Kd.R_slice HO588.out; subst eo75; obtain ⟨Ao76, co76, eo76⟩ := Kd.R_slice HO591.out; subst eo76; obtain ⟨Ao77, co77, eo77⟩ := Kd.R_slice HO594.out; subst eo77; have hnb78 := NB608_555.out; have hnc78 := NB555_608.out; have hnb79 := NB608_579.out; have hnc79 := NB579_608.out; have hnb80 := NB608_580.out; have hnc80 := NB580_608.out; obtain ⟨hcz81_0, hcz81_1, hcz81_2, hcz81_3, hcz81_4, hfz81_0, hfz81_1, hfz81_2, hfz81_3, hfz81_4⟩ := sd5 BK608.out; obtain ⟨Ao82, co82, eo82⟩ := Kd.R_slice HO603.out; subst eo82) | ((with_reducible refine gate_callee (f := 62) rfl ?_); refine goesL_ (some 103) rfl rfl Try.func62 sqk rfl #[.agg #[.int .i64 t585, .slice Ao75 t586.length co75, .slice Ao76 t589.length co76, .slice Ao77 t592.length co77], .int .i64 t595, .agg #[.int .i64 t596, .int .i64 t597, .int .i64 t598, .int .i64 t599, .int .i64 t600], .slice Ao82 t601.length co82, .int .i64 t604, .int .i64 t605, .int .i64 t606] rfl sqm ?_; (with_reducible refine (impl_HealthFact.calls kj25 t585 _ _ t586 _ _ t589 _ _ t592 t595 t596 t597 t598 t599 t600 _ _ t601 t604 t605 t606 t609 t610 t611 t612 t613 t614 t615 _ ?side1 ?side2 ?side3 ?side4 ?side5 ?side6 ?side7 ?side8 A65.out).mono ?_); (case side1 => refine (Kd.R_reads' (e := 3) (base := w.heap.size) (ok := fun _ => True) (n := t586.length) (c := co75) ?_).2.2; exact (sqR2 HO588 BK607 BK608)); (case side2 => exact (Kd.R_reads' HO588.out).2.1); (case side3 => refine (Kd.R_reads' (e := 3) (base := w.heap.size) (ok := fun _ => True) (n := t589.length) (c := co76) ?_).2.2; exact (sqR2 HO591 BK607 BK608)); (case side4 => exact (Kd.R_reads' HO591.out).2.1); (case side5 => refine (Kd.R_reads' (e := 3) (base := w.heap.size) (ok := fun _ => True) (n := t592.length) (c := co77) ?_).2.2; exact (sqR2 HO594 BK607 BK608)); (case side6 => exact (Kd.R_reads' HO594.out).2.1); (case side7 => refine (Kd.R_reads' (e := 3) (base := w.heap.size) (ok := fun _ => True) (n := t601.length) (c := co82) ?_).2.2; exact (sqR2 HO603 BK607 BK608)); (case side8 => exact (Kd.R_reads' HO603.out).2.1); rintro e w83 ⟨rfl, hb⟩; refine ⟨_, rfl, ?_⟩; replace HO_556001 := Aside0.mk (Kd.R_below (sqR2 HO_556001 BK607 BK608) hb); replace HO_556002 := Aside0.mk (Kd.R_below (sqR2 HO_556002 BK607 BK608) hb); replace HO_556003 := Aside0.mk (Kd.R_below (sqR2 HO_556003 BK607 BK608) hb); replace HO_580001 := Aside0.mk (Kd.R_below (sqR2 HO_580001 BK607 BK608) hb); replace HO_580002 := Aside0.mk (Kd.R_below (sqR2 HO_580002 BK607 BK608) hb); replace HO_580003 := Aside0.mk (Kd.R_below (sqR2 HO_580003 BK607 BK608) hb); replace HO_581001 := Aside0.mk (Kd.R_below (sqR2 HO_581001 BK607 BK608) hb); replace HO_581002 := Aside0.mk (Kd.R_below (sqR2 HO_581002 BK607 BK608) hb); replace HO_581003 := Aside0.mk (Kd.R_below (sqR2 HO_581003 BK607 BK608) hb); replace HO588 := Aside0.mk (Kd.R_below (sqR2 HO588 BK607 BK608) hb); replace HO591 := Aside0.mk (Kd.R_below (sqR2 HO591 BK607 BK608) hb); replace HO594 := Aside0.mk (Kd.R_below (sqR2 HO594 BK607 BK608) hb); replace HO603 := Aside0.mk (Kd.R_below (sqR2 HO603 BK607 BK608) hb); replace BK555 := Aside0.mk (blk_below (g := gb555) (o := .cells #[.int .i64 t542, .slice Ao10 t543.length co10, .slice Ao11 t546.length co11, .slice Ao12 t549.length co12] 33 (0, 0)) (bp BK555) hb); replace BK579 := Aside0.mk (blk_below (g := gb579) (o := .cells #[.int .i64 t559, .slice Ao33 t560.length co33, .slice Ao34 t563.length co34, .slice Ao35 t566.length co35] 33 (0, 0)) (bp BK579) hb); replace BK580 := Aside0.mk (blk_below (g := gb580) (o := .cells #[.int .i64 t569, .slice Ao38 t570.length co38, .slice Ao39 t573.length co39, .slice Ao40 t576.length co40] 33 (0, 0)) (bp BK580) hb); replace BK607 := Aside0.mk (blk_below (g := gb607) (o := .cells #[.int .i64 t585, .slice Ao75 t586.length co75, .slice Ao76 t589.length co76, .slice Ao77 t592.length co77] 33 (0, 0)) (bp BK607) hb); replace BK608 := Aside0.mk (blk_below (g := gb608) (o := .cells #[.int .i64 t596, .int .i64 t597, .int .i64 t598, .int .i64 t599, .int .i64 t600] 45 (0, 0)) (bp BK608) hb); replace HB := Aside0.mk (below_step sqh hb); (try clear hb)) | ((with_reducible refine gate_dst (N := 18) rfl ?_); refine bx (N := 18) (cs := #[.int .i64 0, .int .i64 0, .int .i64 0, .int .i64 0, .int .i64 0, .int .i64 0]) (t := 83) ?_; intro gb616 hg w84 hbox hb; replace HO_556001 := Aside0.mk (Kd.R_below (sqq HO_556001.out) hb); replace HO_556002 := Aside0.mk (Kd.R_below (sqq HO_556002.out) hb); replace HO_556003 := Aside0.mk (Kd.R_below (sqq HO_556003.out) hb); replace HO_580001 := Aside0.mk (Kd.R_below (sqq HO_580001.out) hb); replace HO_580002 := Aside0.mk (Kd.R_below (sqq HO_580002.out) hb); replace HO_580003 := Aside0.mk (Kd.R_below (sqq HO_580003.out) hb); replace HO_581001 := Aside0.mk (Kd.R_below (sqq HO_581001.out) hb); replace HO_581002 := Aside0.mk (Kd.R_below (sqq HO_581002.out) hb); replace HO_581003 := Aside0.mk (Kd.R_below (sqq HO_581003.out) hb); replace HO588 := Aside0.mk (Kd.R_below (sqq HO588.out) hb); replace HO591 := Aside0.mk (Kd.R_below (sqq HO591.out) hb); replace HO594 := Aside0.mk (Kd.R_below (sqq HO594.out) hb); replace HO603 := Aside0.mk (Kd.R_below (sqq HO603.out) hb); have BK616 := Aside0.mk (hbox); have GW616 := Aside0.mk ((z13_0 : w.heap.size ≤ gb616)); have GE616 := Aside0.mk ((z13_0 : w.heap.size ≤ gb616)); replace HB := Aside0.mk (below_step sqh hb); have NB555_616 := Aside0.mk ((z13_1 : gb555 ≠ gb616)); have NB616_555 := Aside0.mk ((z13_2 : gb616 ≠ gb555)); replace BK555 := Aside0.mk (blk_below (bo BK555) hb); have NB579_616 := Aside0.mk ((z13_3 : gb579 ≠ gb616)); have NB616_579 := Aside0.mk ((z13_4 : gb616 ≠ gb579)); replace BK579 := Aside0.mk (blk_below (bo BK579) hb); have NB580_616 := Aside0.mk ((by rw [hg]; exact Nat.ne_of_lt (blk_lt (bo BK580)) : gb580 ≠ gb616)); have NB616_580 := Aside0.mk ((by rw [hg]; exact Nat.ne_of_gt (blk_lt (bo BK580)) : gb616 ≠ gb580)); replace BK580 := Aside0.mk (blk_below (bo BK580) hb); have NB607_616 := Aside0.mk ((by rw [hg]; exact Nat.ne_of_lt (blk_lt (bo BK607)) : gb607 ≠ gb616)); have NB616_607 := Aside0.mk ((by rw [hg]; exact Nat.ne_of_gt (blk_lt (bo BK607)) : gb616 ≠ gb607)); replace BK607 := Aside0.mk (blk_below (bo BK607) hb); have NB608_616 := Aside0.mk ((by rw [hg]; exact Nat.ne_of_lt (blk_lt (bo BK608)) : gb608 ≠ gb616)); have NB616_608 := Aside0.mk ((by rw [hg]; exact Nat.ne_of_gt (blk_lt (bo BK608)) : gb616 ≠ gb608)); replace BK608 := Aside0.mk (blk_below (bo BK608) hb); clear hb hbox hg; have hnb85 := NB616_555.out; have hnc85 := NB555_616.out; have hnb86 := NB616_579.out; have hnc86 := NB579_616.out; have hnb87 := NB616_580.out; have hnc87 := NB580_616.out; have hnb88 := NB616_607.out; have hnc88 := NB607_616.out; have hnb89 := NB616_608.out; have hnc89 := NB608_616.out; obtain ⟨hcz90_0, hcz90_1, hcz90_2, hcz90_3, hcz90_4, hcz90_5, hfz90_0, hfz90_1, hfz90_2, hfz90_3, hfz90_4, hfz90_5⟩ := sd6 BK616.out))
          (try simp only [Act.put, List.setIfInBounds_toArray, List.set_cons_zero, List.set_cons_succ])
          go_cut [127] (fun v127 wc => ∃ (kq : Nat) (x127_65 : Bool), v127 = .bool x127_65 ∧ Aside0 (laws_FnAppraisal.j3 kq x127_65 t559 t560 t563 t566 t569 t570 t573 t576 = some r) ∧ Aside0 (kq ≤ kj25) ∧ Aside0 (Kd.R (Kd.int .i64) 3 wc w.heap.size (fun _ => True) (.slice Ao10 t543.length co10) t543) ∧ Aside0 (Kd.R (Kd.int .i64) 3 wc w.heap.size (fun _ => True) (.slice Ao11 t546.length co11) t546) ∧ Aside0 (Kd.R (Kd.int .i64) 3 wc w.heap.size (fun _ => True) (.slice Ao12 t549.length co12) t549) ∧ Aside0 (Kd.R (Kd.int .i64) 3 wc w.heap.size (fun _ => True) (.slice Ao33 t560.length co33) t560) ∧ Aside0 (Kd.R (Kd.int .i64) 3 wc w.heap.size (fun _ => True) (.slice Ao34 t563.length co34) t563) ∧ Aside0 (Kd.R (Kd.int .i64) 3 wc w.heap.size (fun _ => True) (.slice Ao35 t566.length co35) t566) ∧ Aside0 (Kd.R (Kd.int .i64) 3 wc w.heap.size (fun _ => True) (.slice Ao38 t570.length co38) t570) ∧ Aside0 (Kd.R (Kd.int .i64) 3 wc w.heap.size (fun _ => True) (.slice Ao39 t573.length co39) t573) ∧ Aside0 (Kd.R (Kd.int .i64) 3 wc w.heap.size (fun _ => True) (.slice Ao40 t576.length co40) t576) ∧ Aside0 (Kd.R (Kd.int .i64) 3 wc w.heap.size (fun _ => True) (.slice Ao75 t586.length co75) t586) ∧ Aside0 (Kd.R (Kd.int .i64) 3 wc w.heap.size (fun _ => True) (.slice Ao76 t589.length co76) t589) ∧ Aside0 (Kd.R (Kd.int .i64) 3 wc w.heap.size (fun _ => True) (.slice Ao77 t592.length co77) t592) ∧ Aside0 (wc.heap[gb555]? = some (.cells #[.int .i64 t542, (.slice Ao10 t543.length co10), (.slice Ao11 t546.length co11), (.slice Ao12 t549.length co12)] 33 (0, 0))) ∧ Aside0 (wc.heap[gb579]? = some (.cells #[.int .i64 t559, (.slice Ao33 t560.length co33), (.slice Ao34 t563.length co34), (.slice Ao35 t566.length co35)] 33 (0, 0))) ∧ Aside0 (wc.heap[gb580]? = some (.cells #[.int .i64 t569, (.slice Ao38 t570.length co38), (.slice Ao39 t573.length co39), (.slice Ao40 t576.length co40)] 33 (0, 0))) ∧ Aside0 (wc.heap[gb607]? = some (.cells #[.int .i64 t585, (.slice Ao75 t586.length co75), (.slice Ao76 t589.length co76), (.slice Ao77 t592.length co77)] 33 (0, 0))) ∧ Aside0 (wc.heap[gb608]? = some (.cells #[.int .i64 t596, .int .i64 t597, .int .i64 t598, .int .i64 t599, .int .i64 t600] 45 (0, 0))) ∧ Aside0 (wc.heap[gb616]? = some (.cells #[.int .i64 t609, .int .i64 t610, .int .i64 t611, .int .i64 t612, .int .i64 t613, .int .i64 t614] 83 (0, 0))) ∧ Aside0 (Below w.heap.size w wc))
          case first =>
           have H := HC66.out
           clear HC66
           by_cases c91 : t615 = true
           ·subst c91
            replace H := iT H
            obtain ⟨t617, A92, H⟩ := bA H
            by_cases c93 : t611 = t617
            ·rw [if_pos c93] at H
             have c93b0 : (t611 == t617) = true := beq_iff_eq.mpr c93
             have c93b1 : (t611 != t617) = false := bne_eq_false_iff_eq.mpr c93
             clear c93
             (first | rw [c93b0] | (simp only [i64_w, i32_w]; rw [c93b0]) | skip)
             by_cases c94 : t610 = t596
             ·rw [if_pos c94] at H
              have c94b0 : (t610 == t596) = true := beq_iff_eq.mpr c94
              have c94b1 : (t610 != t596) = false := bne_eq_false_iff_eq.mpr c94
              clear c94
              obtain ⟨t618, A95, H⟩ := bA H
              have H' := Aside0.mk H
              clear H
              try go_wp2
              have n0_ : Aside0 (Kd.R (Kd.int .i64) 3 ((((((w84.setCell ⟨gb616, 0, none⟩ (.int .i64 t609)).setCell ⟨gb616, 1, none⟩ (.int .i64 t610)).setCell ⟨gb616, 2, none⟩ (.int .i64 t611)).setCell ⟨gb616, 3, none⟩ (.int .i64 t612)).setCell ⟨gb616, 4, none⟩ (.int .i64 t613)).setCell ⟨gb616, 5, none⟩ (.int .i64 t614)) w.heap.size (fun _ => True) (.slice Ao10 t543.length co10) t543) := ⟨sqR1 HO_556001 BK616⟩
              have n1_ : Aside0 (Kd.R (Kd.int .i64) 3 ((((((w84.setCell ⟨gb616, 0, none⟩ (.int .i64 t609)).setCell ⟨gb616, 1, none⟩ (.int .i64 t610)).setCell ⟨gb616, 2, none⟩ (.int .i64 t611)).setCell ⟨gb616, 3, none⟩ (.int .i64 t612)).setCell ⟨gb616, 4, none⟩ (.int .i64 t613)).setCell ⟨gb616, 5, none⟩ (.int .i64 t614)) w.heap.size (fun _ => True) (.slice Ao11 t546.length co11) t546) := ⟨sqR1 HO_556002 BK616⟩
              have n2_ : Aside0 (Kd.R (Kd.int .i64) 3 ((((((w84.setCell ⟨gb616, 0, none⟩ (.int .i64 t609)).setCell ⟨gb616, 1, none⟩ (.int .i64 t610)).setCell ⟨gb616, 2, none⟩ (.int .i64 t611)).setCell ⟨gb616, 3, none⟩ (.int .i64 t612)).setCell ⟨gb616, 4, none⟩ (.int .i64 t613)).setCell ⟨gb616, 5, none⟩ (.int .i64 t614)) w.heap.size (fun _ => True) (.slice Ao12 t549.length co12) t549) := ⟨sqR1 HO_556003 BK616⟩
              have n3_ : Aside0 (Kd.R (Kd.int .i64) 3 ((((((w84.setCell ⟨gb616, 0, none⟩ (.int .i64 t609)).setCell ⟨gb616, 1, none⟩ (.int .i64 t610)).setCell ⟨gb616, 2, none⟩ (.int .i64 t611)).setCell ⟨gb616, 3, none⟩ (.int .i64 t612)).setCell ⟨gb616, 4, none⟩ (.int .i64 t613)).setCell ⟨gb616, 5, none⟩ (.int .i64 t614)) w.heap.size (fun _ => True) (.slice Ao33 t560.length co33) t560) := ⟨sqR1 HO_580001 BK616⟩
              have n4_ : Aside0 (Kd.R (Kd.int .i64) 3 ((((((w84.setCell ⟨gb616, 0, none⟩ (.int .i64 t609)).setCell ⟨gb616, 1, none⟩ (.int .i64 t610)).setCell ⟨gb616, 2, none⟩ (.int .i64 t611)).setCell ⟨gb616, 3, none⟩ (.int .i64 t612)).setCell ⟨gb616, 4, none⟩ (.int .i64 t613)).setCell ⟨gb616, 5, none⟩ (.int .i64 t614)) w.heap.size (fun _ => True) (.slice Ao34 t563.length co34) t563) := ⟨sqR1 HO_580002 BK616⟩
              have n5_ : Aside0 (Kd.R (Kd.int .i64) 3 ((((((w84.setCell ⟨gb616, 0, none⟩ (.int .i64 t609)).setCell ⟨gb616, 1, none⟩ (.int .i64 t610)).setCell ⟨gb616, 2, none⟩ (.int .i64 t611)).setCell ⟨gb616, 3, none⟩ (.int .i64 t612)).setCell ⟨gb616, 4, none⟩ (.int .i64 t613)).setCell ⟨gb616, 5, none⟩ (.int .i64 t614)) w.heap.size (fun _ => True) (.slice Ao35 t566.length co35) t566) := ⟨sqR1 HO_580003 BK616⟩
              have n6_ : Aside0 (Kd.R (Kd.int .i64) 3 ((((((w84.setCell ⟨gb616, 0, none⟩ (.int .i64 t609)).setCell ⟨gb616, 1, none⟩ (.int .i64 t610)).setCell ⟨gb616, 2, none⟩ (.int .i64 t611)).setCell ⟨gb616, 3, none⟩ (.int .i64 t612)).setCell ⟨gb616, 4, none⟩ (.int .i64 t613)).setCell ⟨gb616, 5, none⟩ (.int .i64 t614)) w.heap.size (fun _ => True) (.slice Ao38 t570.length co38) t570) := ⟨sqR1 HO_581001 BK616⟩
              have n7_ : Aside0 (Kd.R (Kd.int .i64) 3 ((((((w84.setCell ⟨gb616, 0, none⟩ (.int .i64 t609)).setCell ⟨gb616, 1, none⟩ (.int .i64 t610)).setCell ⟨gb616, 2, none⟩ (.int .i64 t611)).setCell ⟨gb616, 3, none⟩ (.int .i64 t612)).setCell ⟨gb616, 4, none⟩ (.int .i64 t613)).setCell ⟨gb616, 5, none⟩ (.int .i64 t614)) w.heap.size (fun _ => True) (.slice Ao39 t573.length co39) t573) := ⟨sqR1 HO_581002 BK616⟩
              have n8_ : Aside0 (Kd.R (Kd.int .i64) 3 ((((((w84.setCell ⟨gb616, 0, none⟩ (.int .i64 t609)).setCell ⟨gb616, 1, none⟩ (.int .i64 t610)).setCell ⟨gb616, 2, none⟩ (.int .i64 t611)).setCell ⟨gb616, 3, none⟩ (.int .i64 t612)).setCell ⟨gb616, 4, none⟩ (.int .i64 t613)).setCell ⟨gb616, 5, none⟩ (.int .i64 t614)) w.heap.size (fun _ => True) (.slice Ao40 t576.length co40) t576) := ⟨sqR1 HO_581003 BK616⟩
              have n9_ : Aside0 (Kd.R (Kd.int .i64) 3 ((((((w84.setCell ⟨gb616, 0, none⟩ (.int .i64 t609)).setCell ⟨gb616, 1, none⟩ (.int .i64 t610)).setCell ⟨gb616, 2, none⟩ (.int .i64 t611)).setCell ⟨gb616, 3, none⟩ (.int .i64 t612)).setCell ⟨gb616, 4, none⟩ (.int .i64 t613)).setCell ⟨gb616, 5, none⟩ (.int .i64 t614)) w.heap.size (fun _ => True) (.slice Ao75 t586.length co75) t586) := ⟨sqR1 HO588 BK616⟩
              have n10_ : Aside0 (Kd.R (Kd.int .i64) 3 ((((((w84.setCell ⟨gb616, 0, none⟩ (.int .i64 t609)).setCell ⟨gb616, 1, none⟩ (.int .i64 t610)).setCell ⟨gb616, 2, none⟩ (.int .i64 t611)).setCell ⟨gb616, 3, none⟩ (.int .i64 t612)).setCell ⟨gb616, 4, none⟩ (.int .i64 t613)).setCell ⟨gb616, 5, none⟩ (.int .i64 t614)) w.heap.size (fun _ => True) (.slice Ao76 t589.length co76) t589) := ⟨sqR1 HO591 BK616⟩
              have n11_ : Aside0 (Kd.R (Kd.int .i64) 3 ((((((w84.setCell ⟨gb616, 0, none⟩ (.int .i64 t609)).setCell ⟨gb616, 1, none⟩ (.int .i64 t610)).setCell ⟨gb616, 2, none⟩ (.int .i64 t611)).setCell ⟨gb616, 3, none⟩ (.int .i64 t612)).setCell ⟨gb616, 4, none⟩ (.int .i64 t613)).setCell ⟨gb616, 5, none⟩ (.int .i64 t614)) w.heap.size (fun _ => True) (.slice Ao77 t592.length co77) t592) := ⟨sqR1 HO594 BK616⟩
              have n12_ : Aside0 (Kd.R (Kd.int .i64) 3 ((((((w84.setCell ⟨gb616, 0, none⟩ (.int .i64 t609)).setCell ⟨gb616, 1, none⟩ (.int .i64 t610)).setCell ⟨gb616, 2, none⟩ (.int .i64 t611)).setCell ⟨gb616, 3, none⟩ (.int .i64 t612)).setCell ⟨gb616, 4, none⟩ (.int .i64 t613)).setCell ⟨gb616, 5, none⟩ (.int .i64 t614)) w.heap.size (fun _ => True) (.slice Ao82 t601.length co82) t601) := ⟨sqR1 HO603 BK616⟩
              have n13_ : Aside0 (((((((w84.setCell ⟨gb616, 0, none⟩ (.int .i64 t609)).setCell ⟨gb616, 1, none⟩ (.int .i64 t610)).setCell ⟨gb616, 2, none⟩ (.int .i64 t611)).setCell ⟨gb616, 3, none⟩ (.int .i64 t612)).setCell ⟨gb616, 4, none⟩ (.int .i64 t613)).setCell ⟨gb616, 5, none⟩ (.int .i64 t614)).heap[gb555]? = some (.cells #[.int .i64 t542, .slice Ao10 t543.length co10, .slice Ao11 t546.length co11, .slice Ao12 t549.length co12] 33 (0, 0))) := ⟨bp BK555⟩
              have n14_ : Aside0 (((((((w84.setCell ⟨gb616, 0, none⟩ (.int .i64 t609)).setCell ⟨gb616, 1, none⟩ (.int .i64 t610)).setCell ⟨gb616, 2, none⟩ (.int .i64 t611)).setCell ⟨gb616, 3, none⟩ (.int .i64 t612)).setCell ⟨gb616, 4, none⟩ (.int .i64 t613)).setCell ⟨gb616, 5, none⟩ (.int .i64 t614)).heap[gb579]? = some (.cells #[.int .i64 t559, .slice Ao33 t560.length co33, .slice Ao34 t563.length co34, .slice Ao35 t566.length co35] 33 (0, 0))) := ⟨bp BK579⟩
              have n15_ : Aside0 (((((((w84.setCell ⟨gb616, 0, none⟩ (.int .i64 t609)).setCell ⟨gb616, 1, none⟩ (.int .i64 t610)).setCell ⟨gb616, 2, none⟩ (.int .i64 t611)).setCell ⟨gb616, 3, none⟩ (.int .i64 t612)).setCell ⟨gb616, 4, none⟩ (.int .i64 t613)).setCell ⟨gb616, 5, none⟩ (.int .i64 t614)).heap[gb580]? = some (.cells #[.int .i64 t569, .slice Ao38 t570.length co38, .slice Ao39 t573.length co39, .slice Ao40 t576.length co40] 33 (0, 0))) := ⟨bp BK580⟩
              have n16_ : Aside0 (((((((w84.setCell ⟨gb616, 0, none⟩ (.int .i64 t609)).setCell ⟨gb616, 1, none⟩ (.int .i64 t610)).setCell ⟨gb616, 2, none⟩ (.int .i64 t611)).setCell ⟨gb616, 3, none⟩ (.int .i64 t612)).setCell ⟨gb616, 4, none⟩ (.int .i64 t613)).setCell ⟨gb616, 5, none⟩ (.int .i64 t614)).heap[gb607]? = some (.cells #[.int .i64 t585, .slice Ao75 t586.length co75, .slice Ao76 t589.length co76, .slice Ao77 t592.length co77] 33 (0, 0))) := ⟨bp BK607⟩
              have n17_ : Aside0 (((((((w84.setCell ⟨gb616, 0, none⟩ (.int .i64 t609)).setCell ⟨gb616, 1, none⟩ (.int .i64 t610)).setCell ⟨gb616, 2, none⟩ (.int .i64 t611)).setCell ⟨gb616, 3, none⟩ (.int .i64 t612)).setCell ⟨gb616, 4, none⟩ (.int .i64 t613)).setCell ⟨gb616, 5, none⟩ (.int .i64 t614)).heap[gb608]? = some (.cells #[.int .i64 t596, .int .i64 t597, .int .i64 t598, .int .i64 t599, .int .i64 t600] 45 (0, 0))) := ⟨bp BK608⟩
              have n18_ : Aside0 (((((((w84.setCell ⟨gb616, 0, none⟩ (.int .i64 t609)).setCell ⟨gb616, 1, none⟩ (.int .i64 t610)).setCell ⟨gb616, 2, none⟩ (.int .i64 t611)).setCell ⟨gb616, 3, none⟩ (.int .i64 t612)).setCell ⟨gb616, 4, none⟩ (.int .i64 t613)).setCell ⟨gb616, 5, none⟩ (.int .i64 t614)).heap[gb616]? = some (.cells #[.int .i64 t609, .int .i64 t610, .int .i64 t611, .int .i64 t612, .int .i64 t613, .int .i64 t614] 83 (0, 0))) := ⟨bp BK616⟩
              have n19_ : Aside0 (Below w.heap.size w ((((((w84.setCell ⟨gb616, 0, none⟩ (.int .i64 t609)).setCell ⟨gb616, 1, none⟩ (.int .i64 t610)).setCell ⟨gb616, 2, none⟩ (.int .i64 t611)).setCell ⟨gb616, 3, none⟩ (.int .i64 t612)).setCell ⟨gb616, 4, none⟩ (.int .i64 t613)).setCell ⟨gb616, 5, none⟩ (.int .i64 t614))) := ⟨sqh⟩
              (try clear HO_556001)
              (try clear HO_556002)
              (try clear HO_556003)
              (try clear HO_580001)
              (try clear HO_580002)
              (try clear HO_580003)
              (try clear HO_581001)
              (try clear HO_581002)
              (try clear HO_581003)
              (try clear HO588)
              (try clear HO591)
              (try clear HO594)
              (try clear HO603)
              (try clear BK555)
              (try clear BK579)
              (try clear BK580)
              (try clear BK607)
              (try clear BK608)
              (try clear BK616)
              (try clear HB)
              generalize ((((((w84.setCell ⟨gb616, 0, none⟩ (.int .i64 t609)).setCell ⟨gb616, 1, none⟩ (.int .i64 t610)).setCell ⟨gb616, 2, none⟩ (.int .i64 t611)).setCell ⟨gb616, 3, none⟩ (.int .i64 t612)).setCell ⟨gb616, 4, none⟩ (.int .i64 t613)).setCell ⟨gb616, 5, none⟩ (.int .i64 t614)) = w96 at n0_ n1_ n2_ n3_ n4_ n5_ n6_ n7_ n8_ n9_ n10_ n11_ n12_ n13_ n14_ n15_ n16_ n17_ n18_ n19_ ⊢
              have HO_556001 := n0_
              have HO_556002 := n1_
              have HO_556003 := n2_
              have HO_580001 := n3_
              have HO_580002 := n4_
              have HO_580003 := n5_
              have HO_581001 := n6_
              have HO_581002 := n7_
              have HO_581003 := n8_
              have HO588 := n9_
              have HO591 := n10_
              have HO594 := n11_
              have HO603 := n12_
              have BK555 := n13_
              have BK579 := n14_
              have BK580 := n15_
              have BK607 := n16_
              have BK608 := n17_
              have BK616 := n18_
              have HB := n19_
              clear n0_ n1_ n2_ n3_ n4_ n5_ n6_ n7_ n8_ n9_ n10_ n11_ n12_ n13_ n14_ n15_ n16_ n17_ n18_ n19_
              replace HO_556001 := Aside0.mk (Kd.R_drew HO_556001.out)
              replace HO_556002 := Aside0.mk (Kd.R_drew HO_556002.out)
              replace HO_556003 := Aside0.mk (Kd.R_drew HO_556003.out)
              replace HO_580001 := Aside0.mk (Kd.R_drew HO_580001.out)
              replace HO_580002 := Aside0.mk (Kd.R_drew HO_580002.out)
              replace HO_580003 := Aside0.mk (Kd.R_drew HO_580003.out)
              replace HO_581001 := Aside0.mk (Kd.R_drew HO_581001.out)
              replace HO_581002 := Aside0.mk (Kd.R_drew HO_581002.out)
              replace HO_581003 := Aside0.mk (Kd.R_drew HO_581003.out)
              replace HO588 := Aside0.mk (Kd.R_drew HO588.out)
              replace HO591 := Aside0.mk (Kd.R_drew HO591.out)
              replace HO594 := Aside0.mk (Kd.R_drew HO594.out)
              replace HO603 := Aside0.mk (Kd.R_drew HO603.out)
              replace BK555 := Aside0.mk (blk_drew BK555.out)
              replace BK579 := Aside0.mk (blk_drew BK579.out)
              replace BK580 := Aside0.mk (blk_drew BK580.out)
              replace BK607 := Aside0.mk (blk_drew BK607.out)
              replace BK608 := Aside0.mk (blk_drew BK608.out)
              replace BK616 := Aside0.mk (blk_drew BK616.out)
              replace HB := Aside0.mk (below_drew1 HB.out)
              refine start_ (n := 22) (S := fun w' => w'.cell? ⟨gb616, 0, none⟩ = some (.int .i64 t609) ∧ w'.cell? ⟨gb616, 1, none⟩ = some (.int .i64 t610) ∧ w'.cell? ⟨gb616, 2, none⟩ = some (.int .i64 t611) ∧ w'.cell? ⟨gb616, 3, none⟩ = some (.int .i64 t612) ∧ w'.cell? ⟨gb616, 4, none⟩ = some (.int .i64 t613) ∧ w'.cell? ⟨gb616, 5, none⟩ = some (.int .i64 t614) ∧ w'.cell? ⟨gb607, 0, none⟩ = some (.int .i64 t585) ∧ w'.cell? ⟨gb607, 1, none⟩ = some (.slice Ao75 t586.length co75) ∧ w'.cell? ⟨gb607, 2, none⟩ = some (.slice Ao76 t589.length co76) ∧ w'.cell? ⟨gb607, 3, none⟩ = some (.slice Ao77 t592.length co77) ∧ w'.cell? ⟨gb608, 0, none⟩ = some (.int .i64 t596) ∧ w'.cell? ⟨gb608, 1, none⟩ = some (.int .i64 t597) ∧ w'.cell? ⟨gb608, 2, none⟩ = some (.int .i64 t598) ∧ w'.cell? ⟨gb608, 3, none⟩ = some (.int .i64 t599) ∧ w'.cell? ⟨gb608, 4, none⟩ = some (.int .i64 t600)) (ds := []) #[false, false, false, false, false, false, false, false, false, false, false, false, false, false, false, false, false, false, false, false, false, false] sqk rfl rfl (sa6 BK616.out (sa4 BK607.out (sc5 BK608.out))) (fun hHeld => ?_); refine with_tabW laws_FnAppraisal.tab18 laws_FnAppraisal.bits18 (fun HT_ HW_ => ?_)
              generalize w96.drew = w97 at HO_556001 HO_556002 HO_556003 HO_580001 HO_580002 HO_580003 HO_581001 HO_581002 HO_581003 HO588 HO591 HO594 HO603 BK555 BK579 BK580 BK607 BK608 BK616 HB hHeld ⊢
              refine pu 0 106 ?_; refine pu 1 107 ?_; refine pu 2 108 ?_; refine pu 5 111 ?_; refine ta 3 109 ?_; refine ta 4 110 ?_
              refine on 6 (some 112) (fun K hK => ?_)
              refine goes_ Try.func29 sqk rfl #[.agg #[.int .i64 t585, .slice Ao75 t586.length co75, .slice Ao76 t589.length co76, .slice Ao77 t592.length co77], .slice Ao82 t601.length co82] (by rfl) rfl rfl sqm ?_
              with_reducible refine (impl_AppraiseLog.calls kj25 t585 _ _ t586 _ _ t589 _ _ t592 _ _ t601 t617 _ ?side1 ?side2 ?side3 ?side4 ?side5 ?side6 ?side7 ?side8 A92.out).mono ?_
              (case side1 => repeat (first | exact (Kd.R_reads' HO588.out).2.2 | (with_reducible refine Kd.C_alloc ?_ _) | (with_reducible refine Kd.C_drewN ?_ _) | (with_reducible refine Kd.C_drew ?_)))
              (case side2 => exact (Kd.R_reads' HO588.out).2.1)
              (case side3 => repeat (first | exact (Kd.R_reads' HO591.out).2.2 | (with_reducible refine Kd.C_alloc ?_ _) | (with_reducible refine Kd.C_drewN ?_ _) | (with_reducible refine Kd.C_drew ?_)))
              (case side4 => exact (Kd.R_reads' HO591.out).2.1)
              (case side5 => repeat (first | exact (Kd.R_reads' HO594.out).2.2 | (with_reducible refine Kd.C_alloc ?_ _) | (with_reducible refine Kd.C_drewN ?_ _) | (with_reducible refine Kd.C_drew ?_)))
              (case side6 => exact (Kd.R_reads' HO594.out).2.1)
              (case side7 => repeat (first | exact (Kd.R_reads' HO603.out).2.2 | (with_reducible refine Kd.C_alloc ?_ _) | (with_reducible refine Kd.C_drewN ?_ _) | (with_reducible refine Kd.C_drew ?_)))
              (case side8 => exact (Kd.R_reads' HO603.out).2.1)
              rintro e w98 ⟨rfl, hb⟩
              refine ⟨_, rfl, ?_⟩
              replace HO_556001 := Aside0.mk (Kd.R_below (sqq HO_556001.out) hb)
              replace HO_556002 := Aside0.mk (Kd.R_below (sqq HO_556002.out) hb)
              replace HO_556003 := Aside0.mk (Kd.R_below (sqq HO_556003.out) hb)
              replace HO_580001 := Aside0.mk (Kd.R_below (sqq HO_580001.out) hb)
              replace HO_580002 := Aside0.mk (Kd.R_below (sqq HO_580002.out) hb)
              replace HO_580003 := Aside0.mk (Kd.R_below (sqq HO_580003.out) hb)
              replace HO_581001 := Aside0.mk (Kd.R_below (sqq HO_581001.out) hb)
              replace HO_581002 := Aside0.mk (Kd.R_below (sqq HO_581002.out) hb)
              replace HO_581003 := Aside0.mk (Kd.R_below (sqq HO_581003.out) hb)
              replace HO588 := Aside0.mk (Kd.R_below (sqq HO588.out) hb)
              replace HO591 := Aside0.mk (Kd.R_below (sqq HO591.out) hb)
              replace HO594 := Aside0.mk (Kd.R_below (sqq HO594.out) hb)
              replace HO603 := Aside0.mk (Kd.R_below (sqq HO603.out) hb)
              replace BK555 := Aside0.mk (blk_below (bo BK555) hb)
              replace BK579 := Aside0.mk (blk_below (bo BK579) hb)
              replace BK580 := Aside0.mk (blk_below (bo BK580) hb)
              replace BK607 := Aside0.mk (blk_below (bo BK607) hb)
              replace BK608 := Aside0.mk (blk_below (bo BK608) hb)
              replace BK616 := Aside0.mk (blk_below (bo BK616) hb)
              replace HB := Aside0.mk (below_step sqh hb)
              (try clear hb)
              (try clear hb2)
              (try clear hk)
              (try clear hi)
              refine hK.out _ _ (sa6 BK616.out (sa4 BK607.out (sc5 BK608.out))) (fun hHeld => ?_)
              clear hK K; refine no 112 ?_; refine pu 7 113 ?_; refine pu 8 114 ?_; refine pu 9 115 ?_; refine pu 11 117 ?_; refine ta 10 116 ?_; refine ta 12 118 ?_; refine pu 13 119 ?_; refine pu 14 120 ?_; refine pu 15 121 ?_; refine pu 17 123 ?_; refine ta 16 122 ?_
              refine on 18 (some 124) (fun K hK => ?_)
              refine goes_ Try.func63 sqk rfl #[.agg #[.int .i64 t609, .int .i64 t610, .int .i64 t611, .int .i64 t612, .int .i64 t613, .int .i64 t614], .int .i64 t605, .int .i64 0] (by rfl) rfl rfl sqm ?_
              with_reducible refine (impl_HoldsAt.calls t609 t610 t611 t612 t613 t614 t605 0 t618 _ A95.out).mono ?_
              rintro e w99 ⟨rfl, hb⟩
              refine ⟨_, rfl, ?_⟩
              replace HO_556001 := Aside0.mk (Kd.R_below (sqq HO_556001.out) hb)
              replace HO_556002 := Aside0.mk (Kd.R_below (sqq HO_556002.out) hb)
              replace HO_556003 := Aside0.mk (Kd.R_below (sqq HO_556003.out) hb)
              replace HO_580001 := Aside0.mk (Kd.R_below (sqq HO_580001.out) hb)
              replace HO_580002 := Aside0.mk (Kd.R_below (sqq HO_580002.out) hb)
              replace HO_580003 := Aside0.mk (Kd.R_below (sqq HO_580003.out) hb)
              replace HO_581001 := Aside0.mk (Kd.R_below (sqq HO_581001.out) hb)
              replace HO_581002 := Aside0.mk (Kd.R_below (sqq HO_581002.out) hb)
              replace HO_581003 := Aside0.mk (Kd.R_below (sqq HO_581003.out) hb)
              replace HO588 := Aside0.mk (Kd.R_below (sqq HO588.out) hb)
              replace HO591 := Aside0.mk (Kd.R_below (sqq HO591.out) hb)
              replace HO594 := Aside0.mk (Kd.R_below (sqq HO594.out) hb)
              replace HO603 := Aside0.mk (Kd.R_below (sqq HO603.out) hb)
              replace BK555 := Aside0.mk (blk_below (bo BK555) hb)
              replace BK579 := Aside0.mk (blk_below (bo BK579) hb)
              replace BK580 := Aside0.mk (blk_below (bo BK580) hb)
              replace BK607 := Aside0.mk (blk_below (bo BK607) hb)
              replace BK608 := Aside0.mk (blk_below (bo BK608) hb)
              replace BK616 := Aside0.mk (blk_below (bo BK616) hb)
              replace HB := Aside0.mk (below_step sqh hb)
              (try clear hb)
              (try clear hb2)
              (try clear hk)
              (try clear hi)
              refine hK.out _ _ (sa6 BK616.out (sa4 BK607.out (sc5 BK608.out))) (fun hHeld => ?_)
              clear hK K; refine no 124 ?_; refine pu 19 125 ?_; refine pu 20 126 ?_; refine pu 21 127 ?_
              refine dn ?_
              try go_wp2
              go_meet
              case rel => exact ⟨_, (!t618), sqr, H', ⟨by have := HJ5.out; have := HK2.out; have := HJ25.out; first | omega | exact Nat.le_refl _⟩, ⟨sqR0 HO_556001⟩, ⟨sqR0 HO_556002⟩, ⟨sqR0 HO_556003⟩, ⟨sqR0 HO_580001⟩, ⟨sqR0 HO_580002⟩, ⟨sqR0 HO_580003⟩, ⟨sqR0 HO_581001⟩, ⟨sqR0 HO_581002⟩, ⟨sqR0 HO_581003⟩, ⟨sqR0 HO588⟩, ⟨sqR0 HO591⟩, ⟨sqR0 HO594⟩, ⟨sqb BK555.out⟩, ⟨sqb BK579.out⟩, ⟨sqb BK580.out⟩, ⟨sqb BK607.out⟩, ⟨sqb BK608.out⟩, ⟨sqb BK616.out⟩, ⟨sqh⟩⟩
             ·rw [if_neg c94] at H
              have c94b0 : (t610 == t596) = false := beq_eq_false_iff_ne.mpr c94
              have c94b1 : (t610 != t596) = true := bne_iff_ne.mpr c94
              have H' := Aside0.mk H
              clear H
              try go_wp2
              have n0_ : Aside0 (Kd.R (Kd.int .i64) 3 ((((((w84.setCell ⟨gb616, 0, none⟩ (.int .i64 t609)).setCell ⟨gb616, 1, none⟩ (.int .i64 t610)).setCell ⟨gb616, 2, none⟩ (.int .i64 t611)).setCell ⟨gb616, 3, none⟩ (.int .i64 t612)).setCell ⟨gb616, 4, none⟩ (.int .i64 t613)).setCell ⟨gb616, 5, none⟩ (.int .i64 t614)) w.heap.size (fun _ => True) (.slice Ao10 t543.length co10) t543) := ⟨sqR1 HO_556001 BK616⟩
              have n1_ : Aside0 (Kd.R (Kd.int .i64) 3 ((((((w84.setCell ⟨gb616, 0, none⟩ (.int .i64 t609)).setCell ⟨gb616, 1, none⟩ (.int .i64 t610)).setCell ⟨gb616, 2, none⟩ (.int .i64 t611)).setCell ⟨gb616, 3, none⟩ (.int .i64 t612)).setCell ⟨gb616, 4, none⟩ (.int .i64 t613)).setCell ⟨gb616, 5, none⟩ (.int .i64 t614)) w.heap.size (fun _ => True) (.slice Ao11 t546.length co11) t546) := ⟨sqR1 HO_556002 BK616⟩
              have n2_ : Aside0 (Kd.R (Kd.int .i64) 3 ((((((w84.setCell ⟨gb616, 0, none⟩ (.int .i64 t609)).setCell ⟨gb616, 1, none⟩ (.int .i64 t610)).setCell ⟨gb616, 2, none⟩ (.int .i64 t611)).setCell ⟨gb616, 3, none⟩ (.int .i64 t612)).setCell ⟨gb616, 4, none⟩ (.int .i64 t613)).setCell ⟨gb616, 5, none⟩ (.int .i64 t614)) w.heap.size (fun _ => True) (.slice Ao12 t549.length co12) t549) := ⟨sqR1 HO_556003 BK616⟩
              have n3_ : Aside0 (Kd.R (Kd.int .i64) 3 ((((((w84.setCell ⟨gb616, 0, none⟩ (.int .i64 t609)).setCell ⟨gb616, 1, none⟩ (.int .i64 t610)).setCell ⟨gb616, 2, none⟩ (.int .i64 t611)).setCell ⟨gb616, 3, none⟩ (.int .i64 t612)).setCell ⟨gb616, 4, none⟩ (.int .i64 t613)).setCell ⟨gb616, 5, none⟩ (.int .i64 t614)) w.heap.size (fun _ => True) (.slice Ao33 t560.length co33) t560) := ⟨sqR1 HO_580001 BK616⟩
              have n4_ : Aside0 (Kd.R (Kd.int .i64) 3 ((((((w84.setCell ⟨gb616, 0, none⟩ (.int .i64 t609)).setCell ⟨gb616, 1, none⟩ (.int .i64 t610)).setCell ⟨gb616, 2, none⟩ (.int .i64 t611)).setCell ⟨gb616, 3, none⟩ (.int .i64 t612)).setCell ⟨gb616, 4, none⟩ (.int .i64 t613)).setCell ⟨gb616, 5, none⟩ (.int .i64 t614)) w.heap.size (fun _ => True) (.slice Ao34 t563.length co34) t563) := ⟨sqR1 HO_580002 BK616⟩
              have n5_ : Aside0 (Kd.R (Kd.int .i64) 3 ((((((w84.setCell ⟨gb616, 0, none⟩ (.int .i64 t609)).setCell ⟨gb616, 1, none⟩ (.int .i64 t610)).setCell ⟨gb616, 2, none⟩ (.int .i64 t611)).setCell ⟨gb616, 3, none⟩ (.int .i64 t612)).setCell ⟨gb616, 4, none⟩ (.int .i64 t613)).setCell ⟨gb616, 5, none⟩ (.int .i64 t614)) w.heap.size (fun _ => True) (.slice Ao35 t566.length co35) t566) := ⟨sqR1 HO_580003 BK616⟩
              have n6_ : Aside0 (Kd.R (Kd.int .i64) 3 ((((((w84.setCell ⟨gb616, 0, none⟩ (.int .i64 t609)).setCell ⟨gb616, 1, none⟩ (.int .i64 t610)).setCell ⟨gb616, 2, none⟩ (.int .i64 t611)).setCell ⟨gb616, 3, none⟩ (.int .i64 t612)).setCell ⟨gb616, 4, none⟩ (.int .i64 t613)).setCell ⟨gb616, 5, none⟩ (.int .i64 t614)) w.heap.size (fun _ => True) (.slice Ao38 t570.length co38) t570) := ⟨sqR1 HO_581001 BK616⟩
              have n7_ : Aside0 (Kd.R (Kd.int .i64) 3 ((((((w84.setCell ⟨gb616, 0, none⟩ (.int .i64 t609)).setCell ⟨gb616, 1, none⟩ (.int .i64 t610)).setCell ⟨gb616, 2, none⟩ (.int .i64 t611)).setCell ⟨gb616, 3, none⟩ (.int .i64 t612)).setCell ⟨gb616, 4, none⟩ (.int .i64 t613)).setCell ⟨gb616, 5, none⟩ (.int .i64 t614)) w.heap.size (fun _ => True) (.slice Ao39 t573.length co39) t573) := ⟨sqR1 HO_581002 BK616⟩
              have n8_ : Aside0 (Kd.R (Kd.int .i64) 3 ((((((w84.setCell ⟨gb616, 0, none⟩ (.int .i64 t609)).setCell ⟨gb616, 1, none⟩ (.int .i64 t610)).setCell ⟨gb616, 2, none⟩ (.int .i64 t611)).setCell ⟨gb616, 3, none⟩ (.int .i64 t612)).setCell ⟨gb616, 4, none⟩ (.int .i64 t613)).setCell ⟨gb616, 5, none⟩ (.int .i64 t614)) w.heap.size (fun _ => True) (.slice Ao40 t576.length co40) t576) := ⟨sqR1 HO_581003 BK616⟩
              have n9_ : Aside0 (Kd.R (Kd.int .i64) 3 ((((((w84.setCell ⟨gb616, 0, none⟩ (.int .i64 t609)).setCell ⟨gb616, 1, none⟩ (.int .i64 t610)).setCell ⟨gb616, 2, none⟩ (.int .i64 t611)).setCell ⟨gb616, 3, none⟩ (.int .i64 t612)).setCell ⟨gb616, 4, none⟩ (.int .i64 t613)).setCell ⟨gb616, 5, none⟩ (.int .i64 t614)) w.heap.size (fun _ => True) (.slice Ao75 t586.length co75) t586) := ⟨sqR1 HO588 BK616⟩
              have n10_ : Aside0 (Kd.R (Kd.int .i64) 3 ((((((w84.setCell ⟨gb616, 0, none⟩ (.int .i64 t609)).setCell ⟨gb616, 1, none⟩ (.int .i64 t610)).setCell ⟨gb616, 2, none⟩ (.int .i64 t611)).setCell ⟨gb616, 3, none⟩ (.int .i64 t612)).setCell ⟨gb616, 4, none⟩ (.int .i64 t613)).setCell ⟨gb616, 5, none⟩ (.int .i64 t614)) w.heap.size (fun _ => True) (.slice Ao76 t589.length co76) t589) := ⟨sqR1 HO591 BK616⟩
              have n11_ : Aside0 (Kd.R (Kd.int .i64) 3 ((((((w84.setCell ⟨gb616, 0, none⟩ (.int .i64 t609)).setCell ⟨gb616, 1, none⟩ (.int .i64 t610)).setCell ⟨gb616, 2, none⟩ (.int .i64 t611)).setCell ⟨gb616, 3, none⟩ (.int .i64 t612)).setCell ⟨gb616, 4, none⟩ (.int .i64 t613)).setCell ⟨gb616, 5, none⟩ (.int .i64 t614)) w.heap.size (fun _ => True) (.slice Ao77 t592.length co77) t592) := ⟨sqR1 HO594 BK616⟩
              have n12_ : Aside0 (Kd.R (Kd.int .i64) 3 ((((((w84.setCell ⟨gb616, 0, none⟩ (.int .i64 t609)).setCell ⟨gb616, 1, none⟩ (.int .i64 t610)).setCell ⟨gb616, 2, none⟩ (.int .i64 t611)).setCell ⟨gb616, 3, none⟩ (.int .i64 t612)).setCell ⟨gb616, 4, none⟩ (.int .i64 t613)).setCell ⟨gb616, 5, none⟩ (.int .i64 t614)) w.heap.size (fun _ => True) (.slice Ao82 t601.length co82) t601) := ⟨sqR1 HO603 BK616⟩
              have n13_ : Aside0 (((((((w84.setCell ⟨gb616, 0, none⟩ (.int .i64 t609)).setCell ⟨gb616, 1, none⟩ (.int .i64 t610)).setCell ⟨gb616, 2, none⟩ (.int .i64 t611)).setCell ⟨gb616, 3, none⟩ (.int .i64 t612)).setCell ⟨gb616, 4, none⟩ (.int .i64 t613)).setCell ⟨gb616, 5, none⟩ (.int .i64 t614)).heap[gb555]? = some (.cells #[.int .i64 t542, .slice Ao10 t543.length co10, .slice Ao11 t546.length co11, .slice Ao12 t549.length co12] 33 (0, 0))) := ⟨bp BK555⟩
              have n14_ : Aside0 (((((((w84.setCell ⟨gb616, 0, none⟩ (.int .i64 t609)).setCell ⟨gb616, 1, none⟩ (.int .i64 t610)).setCell ⟨gb616, 2, none⟩ (.int .i64 t611)).setCell ⟨gb616, 3, none⟩ (.int .i64 t612)).setCell ⟨gb616, 4, none⟩ (.int .i64 t613)).setCell ⟨gb616, 5, none⟩ (.int .i64 t614)).heap[gb579]? = some (.cells #[.int .i64 t559, .slice Ao33 t560.length co33, .slice Ao34 t563.length co34, .slice Ao35 t566.length co35] 33 (0, 0))) := ⟨bp BK579⟩
              have n15_ : Aside0 (((((((w84.setCell ⟨gb616, 0, none⟩ (.int .i64 t609)).setCell ⟨gb616, 1, none⟩ (.int .i64 t610)).setCell ⟨gb616, 2, none⟩ (.int .i64 t611)).setCell ⟨gb616, 3, none⟩ (.int .i64 t612)).setCell ⟨gb616, 4, none⟩ (.int .i64 t613)).setCell ⟨gb616, 5, none⟩ (.int .i64 t614)).heap[gb580]? = some (.cells #[.int .i64 t569, .slice Ao38 t570.length co38, .slice Ao39 t573.length co39, .slice Ao40 t576.length co40] 33 (0, 0))) := ⟨bp BK580⟩
              have n16_ : Aside0 (((((((w84.setCell ⟨gb616, 0, none⟩ (.int .i64 t609)).setCell ⟨gb616, 1, none⟩ (.int .i64 t610)).setCell ⟨gb616, 2, none⟩ (.int .i64 t611)).setCell ⟨gb616, 3, none⟩ (.int .i64 t612)).setCell ⟨gb616, 4, none⟩ (.int .i64 t613)).setCell ⟨gb616, 5, none⟩ (.int .i64 t614)).heap[gb607]? = some (.cells #[.int .i64 t585, .slice Ao75 t586.length co75, .slice Ao76 t589.length co76, .slice Ao77 t592.length co77] 33 (0, 0))) := ⟨bp BK607⟩
              have n17_ : Aside0 (((((((w84.setCell ⟨gb616, 0, none⟩ (.int .i64 t609)).setCell ⟨gb616, 1, none⟩ (.int .i64 t610)).setCell ⟨gb616, 2, none⟩ (.int .i64 t611)).setCell ⟨gb616, 3, none⟩ (.int .i64 t612)).setCell ⟨gb616, 4, none⟩ (.int .i64 t613)).setCell ⟨gb616, 5, none⟩ (.int .i64 t614)).heap[gb608]? = some (.cells #[.int .i64 t596, .int .i64 t597, .int .i64 t598, .int .i64 t599, .int .i64 t600] 45 (0, 0))) := ⟨bp BK608⟩
              have n18_ : Aside0 (((((((w84.setCell ⟨gb616, 0, none⟩ (.int .i64 t609)).setCell ⟨gb616, 1, none⟩ (.int .i64 t610)).setCell ⟨gb616, 2, none⟩ (.int .i64 t611)).setCell ⟨gb616, 3, none⟩ (.int .i64 t612)).setCell ⟨gb616, 4, none⟩ (.int .i64 t613)).setCell ⟨gb616, 5, none⟩ (.int .i64 t614)).heap[gb616]? = some (.cells #[.int .i64 t609, .int .i64 t610, .int .i64 t611, .int .i64 t612, .int .i64 t613, .int .i64 t614] 83 (0, 0))) := ⟨bp BK616⟩
              have n19_ : Aside0 (Below w.heap.size w ((((((w84.setCell ⟨gb616, 0, none⟩ (.int .i64 t609)).setCell ⟨gb616, 1, none⟩ (.int .i64 t610)).setCell ⟨gb616, 2, none⟩ (.int .i64 t611)).setCell ⟨gb616, 3, none⟩ (.int .i64 t612)).setCell ⟨gb616, 4, none⟩ (.int .i64 t613)).setCell ⟨gb616, 5, none⟩ (.int .i64 t614))) := ⟨sqh⟩
              (try clear HO_556001)
              (try clear HO_556002)
              (try clear HO_556003)
              (try clear HO_580001)
              (try clear HO_580002)
              (try clear HO_580003)
              (try clear HO_581001)
              (try clear HO_581002)
              (try clear HO_581003)
              (try clear HO588)
              (try clear HO591)
              (try clear HO594)
              (try clear HO603)
              (try clear BK555)
              (try clear BK579)
              (try clear BK580)
              (try clear BK607)
              (try clear BK608)
              (try clear BK616)
              (try clear HB)
              generalize ((((((w84.setCell ⟨gb616, 0, none⟩ (.int .i64 t609)).setCell ⟨gb616, 1, none⟩ (.int .i64 t610)).setCell ⟨gb616, 2, none⟩ (.int .i64 t611)).setCell ⟨gb616, 3, none⟩ (.int .i64 t612)).setCell ⟨gb616, 4, none⟩ (.int .i64 t613)).setCell ⟨gb616, 5, none⟩ (.int .i64 t614)) = w100 at n0_ n1_ n2_ n3_ n4_ n5_ n6_ n7_ n8_ n9_ n10_ n11_ n12_ n13_ n14_ n15_ n16_ n17_ n18_ n19_ ⊢
              have HO_556001 := n0_
              have HO_556002 := n1_
              have HO_556003 := n2_
              have HO_580001 := n3_
              have HO_580002 := n4_
              have HO_580003 := n5_
              have HO_581001 := n6_
              have HO_581002 := n7_
              have HO_581003 := n8_
              have HO588 := n9_
              have HO591 := n10_
              have HO594 := n11_
              have HO603 := n12_
              have BK555 := n13_
              have BK579 := n14_
              have BK580 := n15_
              have BK607 := n16_
              have BK608 := n17_
              have BK616 := n18_
              have HB := n19_
              clear n0_ n1_ n2_ n3_ n4_ n5_ n6_ n7_ n8_ n9_ n10_ n11_ n12_ n13_ n14_ n15_ n16_ n17_ n18_ n19_
              replace HO_556001 := Aside0.mk (Kd.R_drew HO_556001.out)
              replace HO_556002 := Aside0.mk (Kd.R_drew HO_556002.out)
              replace HO_556003 := Aside0.mk (Kd.R_drew HO_556003.out)
              replace HO_580001 := Aside0.mk (Kd.R_drew HO_580001.out)
              replace HO_580002 := Aside0.mk (Kd.R_drew HO_580002.out)
              replace HO_580003 := Aside0.mk (Kd.R_drew HO_580003.out)
              replace HO_581001 := Aside0.mk (Kd.R_drew HO_581001.out)
              replace HO_581002 := Aside0.mk (Kd.R_drew HO_581002.out)
              replace HO_581003 := Aside0.mk (Kd.R_drew HO_581003.out)
              replace HO588 := Aside0.mk (Kd.R_drew HO588.out)
              replace HO591 := Aside0.mk (Kd.R_drew HO591.out)
              replace HO594 := Aside0.mk (Kd.R_drew HO594.out)
              replace HO603 := Aside0.mk (Kd.R_drew HO603.out)
              replace BK555 := Aside0.mk (blk_drew BK555.out)
              replace BK579 := Aside0.mk (blk_drew BK579.out)
              replace BK580 := Aside0.mk (blk_drew BK580.out)
              replace BK607 := Aside0.mk (blk_drew BK607.out)
              replace BK608 := Aside0.mk (blk_drew BK608.out)
              replace BK616 := Aside0.mk (blk_drew BK616.out)
              replace HB := Aside0.mk (below_drew1 HB.out)
              refine start_ (n := 22) (S := fun w' => w'.cell? ⟨gb616, 0, none⟩ = some (.int .i64 t609) ∧ w'.cell? ⟨gb616, 1, none⟩ = some (.int .i64 t610) ∧ w'.cell? ⟨gb616, 2, none⟩ = some (.int .i64 t611) ∧ w'.cell? ⟨gb616, 3, none⟩ = some (.int .i64 t612) ∧ w'.cell? ⟨gb616, 4, none⟩ = some (.int .i64 t613) ∧ w'.cell? ⟨gb616, 5, none⟩ = some (.int .i64 t614) ∧ w'.cell? ⟨gb607, 0, none⟩ = some (.int .i64 t585) ∧ w'.cell? ⟨gb607, 1, none⟩ = some (.slice Ao75 t586.length co75) ∧ w'.cell? ⟨gb607, 2, none⟩ = some (.slice Ao76 t589.length co76) ∧ w'.cell? ⟨gb607, 3, none⟩ = some (.slice Ao77 t592.length co77) ∧ w'.cell? ⟨gb608, 0, none⟩ = some (.int .i64 t596) ∧ w'.cell? ⟨gb608, 1, none⟩ = some (.int .i64 t597) ∧ w'.cell? ⟨gb608, 2, none⟩ = some (.int .i64 t598) ∧ w'.cell? ⟨gb608, 3, none⟩ = some (.int .i64 t599) ∧ w'.cell? ⟨gb608, 4, none⟩ = some (.int .i64 t600)) (ds := []) #[false, false, false, false, false, false, false, false, false, false, false, false, false, false, false, false, false, false, false, false, false, false] sqk rfl rfl (sa6 BK616.out (sa4 BK607.out (sc5 BK608.out))) (fun hHeld => ?_); refine with_tabW laws_FnAppraisal.tab18 laws_FnAppraisal.bits18 (fun HT_ HW_ => ?_)
              generalize w100.drew = w101 at HO_556001 HO_556002 HO_556003 HO_580001 HO_580002 HO_580003 HO_581001 HO_581002 HO_581003 HO588 HO591 HO594 HO603 BK555 BK579 BK580 BK607 BK608 BK616 HB hHeld ⊢
              refine pu 0 106 ?_; refine pu 1 107 ?_; refine pu 2 108 ?_; refine pu 5 111 ?_; refine ta 3 109 ?_; refine ta 4 110 ?_
              refine on 6 (some 112) (fun K hK => ?_)
              refine goes_ Try.func29 sqk rfl #[.agg #[.int .i64 t585, .slice Ao75 t586.length co75, .slice Ao76 t589.length co76, .slice Ao77 t592.length co77], .slice Ao82 t601.length co82] (by rfl) rfl rfl sqm ?_
              with_reducible refine (impl_AppraiseLog.calls kj25 t585 _ _ t586 _ _ t589 _ _ t592 _ _ t601 t617 _ ?side1 ?side2 ?side3 ?side4 ?side5 ?side6 ?side7 ?side8 A92.out).mono ?_
              (case side1 => repeat (first | exact (Kd.R_reads' HO588.out).2.2 | (with_reducible refine Kd.C_alloc ?_ _) | (with_reducible refine Kd.C_drewN ?_ _) | (with_reducible refine Kd.C_drew ?_)))
              (case side2 => exact (Kd.R_reads' HO588.out).2.1)
              (case side3 => repeat (first | exact (Kd.R_reads' HO591.out).2.2 | (with_reducible refine Kd.C_alloc ?_ _) | (with_reducible refine Kd.C_drewN ?_ _) | (with_reducible refine Kd.C_drew ?_)))
              (case side4 => exact (Kd.R_reads' HO591.out).2.1)
              (case side5 => repeat (first | exact (Kd.R_reads' HO594.out).2.2 | (with_reducible refine Kd.C_alloc ?_ _) | (with_reducible refine Kd.C_drewN ?_ _) | (with_reducible refine Kd.C_drew ?_)))
              (case side6 => exact (Kd.R_reads' HO594.out).2.1)
              (case side7 => repeat (first | exact (Kd.R_reads' HO603.out).2.2 | (with_reducible refine Kd.C_alloc ?_ _) | (with_reducible refine Kd.C_drewN ?_ _) | (with_reducible refine Kd.C_drew ?_)))
              (case side8 => exact (Kd.R_reads' HO603.out).2.1)
              rintro e w102 ⟨rfl, hb⟩
              refine ⟨_, rfl, ?_⟩
              replace HO_556001 := Aside0.mk (Kd.R_below (sqq HO_556001.out) hb)
              replace HO_556002 := Aside0.mk (Kd.R_below (sqq HO_556002.out) hb)
              replace HO_556003 := Aside0.mk (Kd.R_below (sqq HO_556003.out) hb)
              replace HO_580001 := Aside0.mk (Kd.R_below (sqq HO_580001.out) hb)
              replace HO_580002 := Aside0.mk (Kd.R_below (sqq HO_580002.out) hb)
              replace HO_580003 := Aside0.mk (Kd.R_below (sqq HO_580003.out) hb)
              replace HO_581001 := Aside0.mk (Kd.R_below (sqq HO_581001.out) hb)
              replace HO_581002 := Aside0.mk (Kd.R_below (sqq HO_581002.out) hb)
              replace HO_581003 := Aside0.mk (Kd.R_below (sqq HO_581003.out) hb)
              replace HO588 := Aside0.mk (Kd.R_below (sqq HO588.out) hb)
              replace HO591 := Aside0.mk (Kd.R_below (sqq HO591.out) hb)
              replace HO594 := Aside0.mk (Kd.R_below (sqq HO594.out) hb)
              replace HO603 := Aside0.mk (Kd.R_below (sqq HO603.out) hb)
              replace BK555 := Aside0.mk (blk_below (bo BK555) hb)
              replace BK579 := Aside0.mk (blk_below (bo BK579) hb)
              replace BK580 := Aside0.mk (blk_below (bo BK580) hb)
              replace BK607 := Aside0.mk (blk_below (bo BK607) hb)
              replace BK608 := Aside0.mk (blk_below (bo BK608) hb)
              replace BK616 := Aside0.mk (blk_below (bo BK616) hb)
              replace HB := Aside0.mk (below_step sqh hb)
              (try clear hb)
              (try clear hb2)
              (try clear hk)
              (try clear hi)
              refine hK.out _ _ (sa6 BK616.out (sa4 BK607.out (sc5 BK608.out))) (fun hHeld => ?_)
              clear hK K; refine no 112 ?_; refine pu 7 113 ?_; refine pu 8 114 ?_; refine pu 9 115 ?_; refine pu 11 117 ?_; refine ta 10 116 ?_; refine ta 12 118 ?_; refine pu 13 119 ?_; refine pu 14 120 ?_; refine pu 15 121 ?_
              refine pure_ (i := 16) (N := some 122) (v := undef) (a' := ?_) #[true, true, true, true, true, true, true, true, true, true, true, true, true, true, true, true, true, false, false, false, false, false] rfl rfl (any_of HT_.out sqk) (fun _ _ _ h => h) (Or.inr ⟨by rfl, rfl⟩) ?_ ?_
              rotate_left
              ·simp only [Act.put, List.setIfInBounds_toArray, List.set_cons_zero, List.set_cons_succ, i64_w, i32_w]
               rfl
              refine pure_ (i := 17) (N := some 123) (v := undef) (a' := ?_) #[true, true, true, true, true, true, true, true, true, true, true, true, true, true, true, true, true, true, false, false, false, false] rfl rfl (any_of HT_.out sqk) (fun _ _ _ h => h) (Or.inr ⟨by rfl, rfl⟩) ?_ ?_
              rotate_left
              ·simp only [Act.put, List.setIfInBounds_toArray, List.set_cons_zero, List.set_cons_succ, i64_w, i32_w]
               rfl
              refine pure_ (i := 18) (N := some 124) (v := undef) (a' := ?_) #[true, true, true, true, true, true, true, true, true, true, true, true, true, true, true, true, true, true, true, false, false, false] rfl rfl (any_of HT_.out sqk) (fun _ _ _ h => h) (Or.inr ⟨by rfl, rfl⟩) ?_ ?_
              rotate_left
              ·simp only [Act.put, List.setIfInBounds_toArray, List.set_cons_zero, List.set_cons_succ, i64_w, i32_w]
               rfl
              refine pure_ (i := 19) (N := some 125) (v := undef) (a' := ?_) #[true, true, true, true, true, true, true, true, true, true, true, true, true, true, true, true, true, true, true, true, false, false] rfl rfl (any_of HT_.out sqk) (fun _ _ _ h => h) (Or.inr ⟨by rfl, rfl⟩) ?_ ?_
              rotate_left
              ·simp only [Act.put, List.setIfInBounds_toArray, List.set_cons_zero, List.set_cons_succ, i64_w, i32_w]
               rfl
              refine pu 20 126 ?_; refine pu 21 127 ?_
              refine dn ?_
              try go_wp2
              go_meet
              case rel => exact ⟨_, (true), sqr, H', ⟨by have := HJ5.out; have := HK2.out; have := HJ25.out; first | omega | exact Nat.le_refl _⟩, ⟨sqR0 HO_556001⟩, ⟨sqR0 HO_556002⟩, ⟨sqR0 HO_556003⟩, ⟨sqR0 HO_580001⟩, ⟨sqR0 HO_580002⟩, ⟨sqR0 HO_580003⟩, ⟨sqR0 HO_581001⟩, ⟨sqR0 HO_581002⟩, ⟨sqR0 HO_581003⟩, ⟨sqR0 HO588⟩, ⟨sqR0 HO591⟩, ⟨sqR0 HO594⟩, ⟨sqb BK555.out⟩, ⟨sqb BK579.out⟩, ⟨sqb BK580.out⟩, ⟨sqb BK607.out⟩, ⟨sqb BK608.out⟩, ⟨sqb BK616.out⟩, ⟨sqh⟩⟩
            ·rw [if_neg c93] at H
             have c93b0 : (t611 == t617) = false := beq_eq_false_iff_ne.mpr c93
             have c93b1 : (t611 != t617) = true := bne_iff_ne.mpr c93
             (first | rw [c93b0] | (simp only [i64_w, i32_w]; rw [c93b0]) | skip)
             have H' := Aside0.mk H
             clear H
             try go_wp2
             have n0_ : Aside0 (Kd.R (Kd.int .i64) 3 ((((((w84.setCell ⟨gb616, 0, none⟩ (.int .i64 t609)).setCell ⟨gb616, 1, none⟩ (.int .i64 t610)).setCell ⟨gb616, 2, none⟩ (.int .i64 t611)).setCell ⟨gb616, 3, none⟩ (.int .i64 t612)).setCell ⟨gb616, 4, none⟩ (.int .i64 t613)).setCell ⟨gb616, 5, none⟩ (.int .i64 t614)) w.heap.size (fun _ => True) (.slice Ao10 t543.length co10) t543) := ⟨sqR1 HO_556001 BK616⟩
             have n1_ : Aside0 (Kd.R (Kd.int .i64) 3 ((((((w84.setCell ⟨gb616, 0, none⟩ (.int .i64 t609)).setCell ⟨gb616, 1, none⟩ (.int .i64 t610)).setCell ⟨gb616, 2, none⟩ (.int .i64 t611)).setCell ⟨gb616, 3, none⟩ (.int .i64 t612)).setCell ⟨gb616, 4, none⟩ (.int .i64 t613)).setCell ⟨gb616, 5, none⟩ (.int .i64 t614)) w.heap.size (fun _ => True) (.slice Ao11 t546.length co11) t546) := ⟨sqR1 HO_556002 BK616⟩
             have n2_ : Aside0 (Kd.R (Kd.int .i64) 3 ((((((w84.setCell ⟨gb616, 0, none⟩ (.int .i64 t609)).setCell ⟨gb616, 1, none⟩ (.int .i64 t610)).setCell ⟨gb616, 2, none⟩ (.int .i64 t611)).setCell ⟨gb616, 3, none⟩ (.int .i64 t612)).setCell ⟨gb616, 4, none⟩ (.int .i64 t613)).setCell ⟨gb616, 5, none⟩ (.int .i64 t614)) w.heap.size (fun _ => True) (.slice Ao12 t549.length co12) t549) := ⟨sqR1 HO_556003 BK616⟩
             have n3_ : Aside0 (Kd.R (Kd.int .i64) 3 ((((((w84.setCell ⟨gb616, 0, none⟩ (.int .i64 t609)).setCell ⟨gb616, 1, none⟩ (.int .i64 t610)).setCell ⟨gb616, 2, none⟩ (.int .i64 t611)).setCell ⟨gb616, 3, none⟩ (.int .i64 t612)).setCell ⟨gb616, 4, none⟩ (.int .i64 t613)).setCell ⟨gb616, 5, none⟩ (.int .i64 t614)) w.heap.size (fun _ => True) (.slice Ao33 t560.length co33) t560) := ⟨sqR1 HO_580001 BK616⟩
             have n4_ : Aside0 (Kd.R (Kd.int .i64) 3 ((((((w84.setCell ⟨gb616, 0, none⟩ (.int .i64 t609)).setCell ⟨gb616, 1, none⟩ (.int .i64 t610)).setCell ⟨gb616, 2, none⟩ (.int .i64 t611)).setCell ⟨gb616, 3, none⟩ (.int .i64 t612)).setCell ⟨gb616, 4, none⟩ (.int .i64 t613)).setCell ⟨gb616, 5, none⟩ (.int .i64 t614)) w.heap.size (fun _ => True) (.slice Ao34 t563.length co34) t563) := ⟨sqR1 HO_580002 BK616⟩
             have n5_ : Aside0 (Kd.R (Kd.int .i64) 3 ((((((w84.setCell ⟨gb616, 0, none⟩ (.int .i64 t609)).setCell ⟨gb616, 1, none⟩ (.int .i64 t610)).setCell ⟨gb616, 2, none⟩ (.int .i64 t611)).setCell ⟨gb616, 3, none⟩ (.int .i64 t612)).setCell ⟨gb616, 4, none⟩ (.int .i64 t613)).setCell ⟨gb616, 5, none⟩ (.int .i64 t614)) w.heap.size (fun _ => True) (.slice Ao35 t566.length co35) t566) := ⟨sqR1 HO_580003 BK616⟩
             have n6_ : Aside0 (Kd.R (Kd.int .i64) 3 ((((((w84.setCell ⟨gb616, 0, none⟩ (.int .i64 t609)).setCell ⟨gb616, 1, none⟩ (.int .i64 t610)).setCell ⟨gb616, 2, none⟩ (.int .i64 t611)).setCell ⟨gb616, 3, none⟩ (.int .i64 t612)).setCell ⟨gb616, 4, none⟩ (.int .i64 t613)).setCell ⟨gb616, 5, none⟩ (.int .i64 t614)) w.heap.size (fun _ => True) (.slice Ao38 t570.length co38) t570) := ⟨sqR1 HO_581001 BK616⟩
             have n7_ : Aside0 (Kd.R (Kd.int .i64) 3 ((((((w84.setCell ⟨gb616, 0, none⟩ (.int .i64 t609)).setCell ⟨gb616, 1, none⟩ (.int .i64 t610)).setCell ⟨gb616, 2, none⟩ (.int .i64 t611)).setCell ⟨gb616, 3, none⟩ (.int .i64 t612)).setCell ⟨gb616, 4, none⟩ (.int .i64 t613)).setCell ⟨gb616, 5, none⟩ (.int .i64 t614)) w.heap.size (fun _ => True) (.slice Ao39 t573.length co39) t573) := ⟨sqR1 HO_581002 BK616⟩
             have n8_ : Aside0 (Kd.R (Kd.int .i64) 3 ((((((w84.setCell ⟨gb616, 0, none⟩ (.int .i64 t609)).setCell ⟨gb616, 1, none⟩ (.int .i64 t610)).setCell ⟨gb616, 2, none⟩ (.int .i64 t611)).setCell ⟨gb616, 3, none⟩ (.int .i64 t612)).setCell ⟨gb616, 4, none⟩ (.int .i64 t613)).setCell ⟨gb616, 5, none⟩ (.int .i64 t614)) w.heap.size (fun _ => True) (.slice Ao40 t576.length co40) t576) := ⟨sqR1 HO_581003 BK616⟩
             have n9_ : Aside0 (Kd.R (Kd.int .i64) 3 ((((((w84.setCell ⟨gb616, 0, none⟩ (.int .i64 t609)).setCell ⟨gb616, 1, none⟩ (.int .i64 t610)).setCell ⟨gb616, 2, none⟩ (.int .i64 t611)).setCell ⟨gb616, 3, none⟩ (.int .i64 t612)).setCell ⟨gb616, 4, none⟩ (.int .i64 t613)).setCell ⟨gb616, 5, none⟩ (.int .i64 t614)) w.heap.size (fun _ => True) (.slice Ao75 t586.length co75) t586) := ⟨sqR1 HO588 BK616⟩
             have n10_ : Aside0 (Kd.R (Kd.int .i64) 3 ((((((w84.setCell ⟨gb616, 0, none⟩ (.int .i64 t609)).setCell ⟨gb616, 1, none⟩ (.int .i64 t610)).setCell ⟨gb616, 2, none⟩ (.int .i64 t611)).setCell ⟨gb616, 3, none⟩ (.int .i64 t612)).setCell ⟨gb616, 4, none⟩ (.int .i64 t613)).setCell ⟨gb616, 5, none⟩ (.int .i64 t614)) w.heap.size (fun _ => True) (.slice Ao76 t589.length co76) t589) := ⟨sqR1 HO591 BK616⟩
             have n11_ : Aside0 (Kd.R (Kd.int .i64) 3 ((((((w84.setCell ⟨gb616, 0, none⟩ (.int .i64 t609)).setCell ⟨gb616, 1, none⟩ (.int .i64 t610)).setCell ⟨gb616, 2, none⟩ (.int .i64 t611)).setCell ⟨gb616, 3, none⟩ (.int .i64 t612)).setCell ⟨gb616, 4, none⟩ (.int .i64 t613)).setCell ⟨gb616, 5, none⟩ (.int .i64 t614)) w.heap.size (fun _ => True) (.slice Ao77 t592.length co77) t592) := ⟨sqR1 HO594 BK616⟩
             have n12_ : Aside0 (Kd.R (Kd.int .i64) 3 ((((((w84.setCell ⟨gb616, 0, none⟩ (.int .i64 t609)).setCell ⟨gb616, 1, none⟩ (.int .i64 t610)).setCell ⟨gb616, 2, none⟩ (.int .i64 t611)).setCell ⟨gb616, 3, none⟩ (.int .i64 t612)).setCell ⟨gb616, 4, none⟩ (.int .i64 t613)).setCell ⟨gb616, 5, none⟩ (.int .i64 t614)) w.heap.size (fun _ => True) (.slice Ao82 t601.length co82) t601) := ⟨sqR1 HO603 BK616⟩
             have n13_ : Aside0 (((((((w84.setCell ⟨gb616, 0, none⟩ (.int .i64 t609)).setCell ⟨gb616, 1, none⟩ (.int .i64 t610)).setCell ⟨gb616, 2, none⟩ (.int .i64 t611)).setCell ⟨gb616, 3, none⟩ (.int .i64 t612)).setCell ⟨gb616, 4, none⟩ (.int .i64 t613)).setCell ⟨gb616, 5, none⟩ (.int .i64 t614)).heap[gb555]? = some (.cells #[.int .i64 t542, .slice Ao10 t543.length co10, .slice Ao11 t546.length co11, .slice Ao12 t549.length co12] 33 (0, 0))) := ⟨bp BK555⟩
             have n14_ : Aside0 (((((((w84.setCell ⟨gb616, 0, none⟩ (.int .i64 t609)).setCell ⟨gb616, 1, none⟩ (.int .i64 t610)).setCell ⟨gb616, 2, none⟩ (.int .i64 t611)).setCell ⟨gb616, 3, none⟩ (.int .i64 t612)).setCell ⟨gb616, 4, none⟩ (.int .i64 t613)).setCell ⟨gb616, 5, none⟩ (.int .i64 t614)).heap[gb579]? = some (.cells #[.int .i64 t559, .slice Ao33 t560.length co33, .slice Ao34 t563.length co34, .slice Ao35 t566.length co35] 33 (0, 0))) := ⟨bp BK579⟩
             have n15_ : Aside0 (((((((w84.setCell ⟨gb616, 0, none⟩ (.int .i64 t609)).setCell ⟨gb616, 1, none⟩ (.int .i64 t610)).setCell ⟨gb616, 2, none⟩ (.int .i64 t611)).setCell ⟨gb616, 3, none⟩ (.int .i64 t612)).setCell ⟨gb616, 4, none⟩ (.int .i64 t613)).setCell ⟨gb616, 5, none⟩ (.int .i64 t614)).heap[gb580]? = some (.cells #[.int .i64 t569, .slice Ao38 t570.length co38, .slice Ao39 t573.length co39, .slice Ao40 t576.length co40] 33 (0, 0))) := ⟨bp BK580⟩
             have n16_ : Aside0 (((((((w84.setCell ⟨gb616, 0, none⟩ (.int .i64 t609)).setCell ⟨gb616, 1, none⟩ (.int .i64 t610)).setCell ⟨gb616, 2, none⟩ (.int .i64 t611)).setCell ⟨gb616, 3, none⟩ (.int .i64 t612)).setCell ⟨gb616, 4, none⟩ (.int .i64 t613)).setCell ⟨gb616, 5, none⟩ (.int .i64 t614)).heap[gb607]? = some (.cells #[.int .i64 t585, .slice Ao75 t586.length co75, .slice Ao76 t589.length co76, .slice Ao77 t592.length co77] 33 (0, 0))) := ⟨bp BK607⟩
             have n17_ : Aside0 (((((((w84.setCell ⟨gb616, 0, none⟩ (.int .i64 t609)).setCell ⟨gb616, 1, none⟩ (.int .i64 t610)).setCell ⟨gb616, 2, none⟩ (.int .i64 t611)).setCell ⟨gb616, 3, none⟩ (.int .i64 t612)).setCell ⟨gb616, 4, none⟩ (.int .i64 t613)).setCell ⟨gb616, 5, none⟩ (.int .i64 t614)).heap[gb608]? = some (.cells #[.int .i64 t596, .int .i64 t597, .int .i64 t598, .int .i64 t599, .int .i64 t600] 45 (0, 0))) := ⟨bp BK608⟩
             have n18_ : Aside0 (((((((w84.setCell ⟨gb616, 0, none⟩ (.int .i64 t609)).setCell ⟨gb616, 1, none⟩ (.int .i64 t610)).setCell ⟨gb616, 2, none⟩ (.int .i64 t611)).setCell ⟨gb616, 3, none⟩ (.int .i64 t612)).setCell ⟨gb616, 4, none⟩ (.int .i64 t613)).setCell ⟨gb616, 5, none⟩ (.int .i64 t614)).heap[gb616]? = some (.cells #[.int .i64 t609, .int .i64 t610, .int .i64 t611, .int .i64 t612, .int .i64 t613, .int .i64 t614] 83 (0, 0))) := ⟨bp BK616⟩
             have n19_ : Aside0 (Below w.heap.size w ((((((w84.setCell ⟨gb616, 0, none⟩ (.int .i64 t609)).setCell ⟨gb616, 1, none⟩ (.int .i64 t610)).setCell ⟨gb616, 2, none⟩ (.int .i64 t611)).setCell ⟨gb616, 3, none⟩ (.int .i64 t612)).setCell ⟨gb616, 4, none⟩ (.int .i64 t613)).setCell ⟨gb616, 5, none⟩ (.int .i64 t614))) := ⟨sqh⟩
             (try clear HO_556001)
             (try clear HO_556002)
             (try clear HO_556003)
             (try clear HO_580001)
             (try clear HO_580002)
             (try clear HO_580003)
             (try clear HO_581001)
             (try clear HO_581002)
             (try clear HO_581003)
             (try clear HO588)
             (try clear HO591)
             (try clear HO594)
             (try clear HO603)
             (try clear BK555)
             (try clear BK579)
             (try clear BK580)
             (try clear BK607)
             (try clear BK608)
             (try clear BK616)
             (try clear HB)
             generalize ((((((w84.setCell ⟨gb616, 0, none⟩ (.int .i64 t609)).setCell ⟨gb616, 1, none⟩ (.int .i64 t610)).setCell ⟨gb616, 2, none⟩ (.int .i64 t611)).setCell ⟨gb616, 3, none⟩ (.int .i64 t612)).setCell ⟨gb616, 4, none⟩ (.int .i64 t613)).setCell ⟨gb616, 5, none⟩ (.int .i64 t614)) = w103 at n0_ n1_ n2_ n3_ n4_ n5_ n6_ n7_ n8_ n9_ n10_ n11_ n12_ n13_ n14_ n15_ n16_ n17_ n18_ n19_ ⊢
             have HO_556001 := n0_
             have HO_556002 := n1_
             have HO_556003 := n2_
             have HO_580001 := n3_
             have HO_580002 := n4_
             have HO_580003 := n5_
             have HO_581001 := n6_
             have HO_581002 := n7_
             have HO_581003 := n8_
             have HO588 := n9_
             have HO591 := n10_
             have HO594 := n11_
             have HO603 := n12_
             have BK555 := n13_
             have BK579 := n14_
             have BK580 := n15_
             have BK607 := n16_
             have BK608 := n17_
             have BK616 := n18_
             have HB := n19_
             clear n0_ n1_ n2_ n3_ n4_ n5_ n6_ n7_ n8_ n9_ n10_ n11_ n12_ n13_ n14_ n15_ n16_ n17_ n18_ n19_
             replace HO_556001 := Aside0.mk (Kd.R_drew HO_556001.out)
             replace HO_556002 := Aside0.mk (Kd.R_drew HO_556002.out)
             replace HO_556003 := Aside0.mk (Kd.R_drew HO_556003.out)
             replace HO_580001 := Aside0.mk (Kd.R_drew HO_580001.out)
             replace HO_580002 := Aside0.mk (Kd.R_drew HO_580002.out)
             replace HO_580003 := Aside0.mk (Kd.R_drew HO_580003.out)
             replace HO_581001 := Aside0.mk (Kd.R_drew HO_581001.out)
             replace HO_581002 := Aside0.mk (Kd.R_drew HO_581002.out)
             replace HO_581003 := Aside0.mk (Kd.R_drew HO_581003.out)
             replace HO588 := Aside0.mk (Kd.R_drew HO588.out)
             replace HO591 := Aside0.mk (Kd.R_drew HO591.out)
             replace HO594 := Aside0.mk (Kd.R_drew HO594.out)
             replace HO603 := Aside0.mk (Kd.R_drew HO603.out)
             replace BK555 := Aside0.mk (blk_drew BK555.out)
             replace BK579 := Aside0.mk (blk_drew BK579.out)
             replace BK580 := Aside0.mk (blk_drew BK580.out)
             replace BK607 := Aside0.mk (blk_drew BK607.out)
             replace BK608 := Aside0.mk (blk_drew BK608.out)
             replace BK616 := Aside0.mk (blk_drew BK616.out)
             replace HB := Aside0.mk (below_drew1 HB.out)
             refine start_ (n := 22) (S := fun w' => w'.cell? ⟨gb616, 0, none⟩ = some (.int .i64 t609) ∧ w'.cell? ⟨gb616, 1, none⟩ = some (.int .i64 t610) ∧ w'.cell? ⟨gb616, 2, none⟩ = some (.int .i64 t611) ∧ w'.cell? ⟨gb616, 3, none⟩ = some (.int .i64 t612) ∧ w'.cell? ⟨gb616, 4, none⟩ = some (.int .i64 t613) ∧ w'.cell? ⟨gb616, 5, none⟩ = some (.int .i64 t614) ∧ w'.cell? ⟨gb607, 0, none⟩ = some (.int .i64 t585) ∧ w'.cell? ⟨gb607, 1, none⟩ = some (.slice Ao75 t586.length co75) ∧ w'.cell? ⟨gb607, 2, none⟩ = some (.slice Ao76 t589.length co76) ∧ w'.cell? ⟨gb607, 3, none⟩ = some (.slice Ao77 t592.length co77)) (ds := []) #[false, false, false, false, false, false, false, false, false, false, false, false, false, false, false, false, false, false, false, false, false, false] sqk rfl rfl (sa6 BK616.out (sc4 BK607.out)) (fun hHeld => ?_); refine with_tabW laws_FnAppraisal.tab18 laws_FnAppraisal.bits18 (fun HT_ HW_ => ?_)
             generalize w103.drew = w104 at HO_556001 HO_556002 HO_556003 HO_580001 HO_580002 HO_580003 HO_581001 HO_581002 HO_581003 HO588 HO591 HO594 HO603 BK555 BK579 BK580 BK607 BK608 BK616 HB hHeld ⊢
             refine pu 0 106 ?_; refine pu 1 107 ?_; refine pu 2 108 ?_; refine pu 5 111 ?_; refine ta 3 109 ?_; refine ta 4 110 ?_
             refine on 6 (some 112) (fun K hK => ?_)
             refine goes_ Try.func29 sqk rfl #[.agg #[.int .i64 t585, .slice Ao75 t586.length co75, .slice Ao76 t589.length co76, .slice Ao77 t592.length co77], .slice Ao82 t601.length co82] (by rfl) rfl rfl sqm ?_
             with_reducible refine (impl_AppraiseLog.calls kj25 t585 _ _ t586 _ _ t589 _ _ t592 _ _ t601 t617 _ ?side1 ?side2 ?side3 ?side4 ?side5 ?side6 ?side7 ?side8 A92.out).mono ?_
             (case side1 => repeat (first | exact (Kd.R_reads' HO588.out).2.2 | (with_reducible refine Kd.C_alloc ?_ _) | (with_reducible refine Kd.C_drewN ?_ _) | (with_reducible refine Kd.C_drew ?_)))
             (case side2 => exact (Kd.R_reads' HO588.out).2.1)
             (case side3 => repeat (first | exact (Kd.R_reads' HO591.out).2.2 | (with_reducible refine Kd.C_alloc ?_ _) | (with_reducible refine Kd.C_drewN ?_ _) | (with_reducible refine Kd.C_drew ?_)))
             (case side4 => exact (Kd.R_reads' HO591.out).2.1)
             (case side5 => repeat (first | exact (Kd.R_reads' HO594.out).2.2 | (with_reducible refine Kd.C_alloc ?_ _) | (with_reducible refine Kd.C_drewN ?_ _) | (with_reducible refine Kd.C_drew ?_)))
             (case side6 => exact (Kd.R_reads' HO594.out).2.1)
             (case side7 => repeat (first | exact (Kd.R_reads' HO603.out).2.2 | (with_reducible refine Kd.C_alloc ?_ _) | (with_reducible refine Kd.C_drewN ?_ _) | (with_reducible refine Kd.C_drew ?_)))
             (case side8 => exact (Kd.R_reads' HO603.out).2.1)
             rintro e w105 ⟨rfl, hb⟩
             refine ⟨_, rfl, ?_⟩
             replace HO_556001 := Aside0.mk (Kd.R_below (sqq HO_556001.out) hb)
             replace HO_556002 := Aside0.mk (Kd.R_below (sqq HO_556002.out) hb)
             replace HO_556003 := Aside0.mk (Kd.R_below (sqq HO_556003.out) hb)
             replace HO_580001 := Aside0.mk (Kd.R_below (sqq HO_580001.out) hb)
             replace HO_580002 := Aside0.mk (Kd.R_below (sqq HO_580002.out) hb)
             replace HO_580003 := Aside0.mk (Kd.R_below (sqq HO_580003.out) hb)
             replace HO_581001 := Aside0.mk (Kd.R_below (sqq HO_581001.out) hb)
             replace HO_581002 := Aside0.mk (Kd.R_below (sqq HO_581002.out) hb)
             replace HO_581003 := Aside0.mk (Kd.R_below (sqq HO_581003.out) hb)
             replace HO588 := Aside0.mk (Kd.R_below (sqq HO588.out) hb)
             replace HO591 := Aside0.mk (Kd.R_below (sqq HO591.out) hb)
             replace HO594 := Aside0.mk (Kd.R_below (sqq HO594.out) hb)
             replace HO603 := Aside0.mk (Kd.R_below (sqq HO603.out) hb)
             replace BK555 := Aside0.mk (blk_below (bo BK555) hb)
             replace BK579 := Aside0.mk (blk_below (bo BK579) hb)
             replace BK580 := Aside0.mk (blk_below (bo BK580) hb)
             replace BK607 := Aside0.mk (blk_below (bo BK607) hb)
             replace BK608 := Aside0.mk (blk_below (bo BK608) hb)
             replace BK616 := Aside0.mk (blk_below (bo BK616) hb)
             replace HB := Aside0.mk (below_step sqh hb)
             (try clear hb)
             (try clear hb2)
             (try clear hk)
             (try clear hi)
             refine hK.out _ _ (sa6 BK616.out (sc4 BK607.out)) (fun hHeld => ?_)
             clear hK K; refine no 112 ?_; refine pu 7 113 ?_; refine pu 8 114 ?_
             refine pure_ (i := 9) (N := some 115) (v := undef) (a' := ?_) #[true, true, true, true, true, true, true, true, true, true, false, false, false, false, false, false, false, false, false, false, false, false] rfl rfl (any_of HT_.out sqk) (fun _ _ _ h => h) (Or.inr ⟨by rfl, rfl⟩) ?_ ?_
             rotate_left
             ·simp only [Act.put, List.setIfInBounds_toArray, List.set_cons_zero, List.set_cons_succ, i64_w, i32_w]
              rfl
             refine pure_ (i := 10) (N := some 116) (v := undef) (a' := ?_) #[true, true, true, true, true, true, true, true, true, true, true, false, false, false, false, false, false, false, false, false, false, false] rfl rfl (any_of HT_.out sqk) (fun _ _ _ h => h) (Or.inr ⟨by rfl, rfl⟩) ?_ ?_
             rotate_left
             ·simp only [Act.put, List.setIfInBounds_toArray, List.set_cons_zero, List.set_cons_succ, i64_w, i32_w]
              rfl
             refine pure_ (i := 11) (N := some 117) (v := undef) (a' := ?_) #[true, true, true, true, true, true, true, true, true, true, true, true, false, false, false, false, false, false, false, false, false, false] rfl rfl (any_of HT_.out sqk) (fun _ _ _ h => h) (Or.inr ⟨by rfl, rfl⟩) ?_ ?_
             rotate_left
             ·simp only [Act.put, List.setIfInBounds_toArray, List.set_cons_zero, List.set_cons_succ, i64_w, i32_w]
              rfl
             refine pure_ (i := 12) (N := some 118) (v := undef) (a' := ?_) #[true, true, true, true, true, true, true, true, true, true, true, true, true, false, false, false, false, false, false, false, false, false] rfl rfl (any_of HT_.out sqk) (fun _ _ _ h => h) (Or.inr ⟨by rfl, rfl⟩) ?_ ?_
             rotate_left
             ·simp only [Act.put, List.setIfInBounds_toArray, List.set_cons_zero, List.set_cons_succ, i64_w, i32_w]
              rfl
             refine pure_ (i := 13) (N := some 119) (v := undef) (a' := ?_) #[true, true, true, true, true, true, true, true, true, true, true, true, true, true, false, false, false, false, false, false, false, false] rfl rfl (any_of HT_.out sqk) (fun _ _ _ h => h) (Or.inr ⟨by rfl, rfl⟩) ?_ ?_
             rotate_left
             ·simp only [Act.put, List.setIfInBounds_toArray, List.set_cons_zero, List.set_cons_succ, i64_w, i32_w]
              rfl
             refine pu 14 120 ?_; refine pu 15 121 ?_
             refine pure_ (i := 16) (N := some 122) (v := undef) (a' := ?_) #[true, true, true, true, true, true, true, true, true, true, true, true, true, true, true, true, true, false, false, false, false, false] rfl rfl (any_of HT_.out sqk) (fun _ _ _ h => h) (Or.inr ⟨by rfl, rfl⟩) ?_ ?_
             rotate_left
             ·simp only [Act.put, List.setIfInBounds_toArray, List.set_cons_zero, List.set_cons_succ, i64_w, i32_w]
              rfl
             refine pure_ (i := 17) (N := some 123) (v := undef) (a' := ?_) #[true, true, true, true, true, true, true, true, true, true, true, true, true, true, true, true, true, true, false, false, false, false] rfl rfl (any_of HT_.out sqk) (fun _ _ _ h => h) (Or.inr ⟨by rfl, rfl⟩) ?_ ?_
             rotate_left
             ·simp only [Act.put, List.setIfInBounds_toArray, List.set_cons_zero, List.set_cons_succ, i64_w, i32_w]
              rfl
             refine pure_ (i := 18) (N := some 124) (v := undef) (a' := ?_) #[true, true, true, true, true, true, true, true, true, true, true, true, true, true, true, true, true, true, true, false, false, false] rfl rfl (any_of HT_.out sqk) (fun _ _ _ h => h) (Or.inr ⟨by rfl, rfl⟩) ?_ ?_
             rotate_left
             ·simp only [Act.put, List.setIfInBounds_toArray, List.set_cons_zero, List.set_cons_succ, i64_w, i32_w]
              rfl
             refine pure_ (i := 19) (N := some 125) (v := undef) (a' := ?_) #[true, true, true, true, true, true, true, true, true, true, true, true, true, true, true, true, true, true, true, true, false, false] rfl rfl (any_of HT_.out sqk) (fun _ _ _ h => h) (Or.inr ⟨by rfl, rfl⟩) ?_ ?_
             rotate_left
             ·simp only [Act.put, List.setIfInBounds_toArray, List.set_cons_zero, List.set_cons_succ, i64_w, i32_w]
              rfl
             refine pu 20 126 ?_; refine pu 21 127 ?_
             refine dn ?_
             try go_wp2
             go_meet
             case rel => exact ⟨_, (true), sqr, H', ⟨by have := HJ5.out; have := HK2.out; have := HJ25.out; first | omega | exact Nat.le_refl _⟩, ⟨sqR0 HO_556001⟩, ⟨sqR0 HO_556002⟩, ⟨sqR0 HO_556003⟩, ⟨sqR0 HO_580001⟩, ⟨sqR0 HO_580002⟩, ⟨sqR0 HO_580003⟩, ⟨sqR0 HO_581001⟩, ⟨sqR0 HO_581002⟩, ⟨sqR0 HO_581003⟩, ⟨sqR0 HO588⟩, ⟨sqR0 HO591⟩, ⟨sqR0 HO594⟩, ⟨sqb BK555.out⟩, ⟨sqb BK579.out⟩, ⟨sqb BK580.out⟩, ⟨sqb BK607.out⟩, ⟨sqb BK608.out⟩, ⟨sqb BK616.out⟩, ⟨sqh⟩⟩
           ·replace c91 := Bool.eq_false_iff.mpr c91
            subst c91
            replace H := iF H
            have H' := Aside0.mk H
            clear H
            try go_wp2
            have n0_ : Aside0 (Kd.R (Kd.int .i64) 3 ((((((w84.setCell ⟨gb616, 0, none⟩ (.int .i64 t609)).setCell ⟨gb616, 1, none⟩ (.int .i64 t610)).setCell ⟨gb616, 2, none⟩ (.int .i64 t611)).setCell ⟨gb616, 3, none⟩ (.int .i64 t612)).setCell ⟨gb616, 4, none⟩ (.int .i64 t613)).setCell ⟨gb616, 5, none⟩ (.int .i64 t614)) w.heap.size (fun _ => True) (.slice Ao10 t543.length co10) t543) := ⟨sqR1 HO_556001 BK616⟩
            have n1_ : Aside0 (Kd.R (Kd.int .i64) 3 ((((((w84.setCell ⟨gb616, 0, none⟩ (.int .i64 t609)).setCell ⟨gb616, 1, none⟩ (.int .i64 t610)).setCell ⟨gb616, 2, none⟩ (.int .i64 t611)).setCell ⟨gb616, 3, none⟩ (.int .i64 t612)).setCell ⟨gb616, 4, none⟩ (.int .i64 t613)).setCell ⟨gb616, 5, none⟩ (.int .i64 t614)) w.heap.size (fun _ => True) (.slice Ao11 t546.length co11) t546) := ⟨sqR1 HO_556002 BK616⟩
            have n2_ : Aside0 (Kd.R (Kd.int .i64) 3 ((((((w84.setCell ⟨gb616, 0, none⟩ (.int .i64 t609)).setCell ⟨gb616, 1, none⟩ (.int .i64 t610)).setCell ⟨gb616, 2, none⟩ (.int .i64 t611)).setCell ⟨gb616, 3, none⟩ (.int .i64 t612)).setCell ⟨gb616, 4, none⟩ (.int .i64 t613)).setCell ⟨gb616, 5, none⟩ (.int .i64 t614)) w.heap.size (fun _ => True) (.slice Ao12 t549.length co12) t549) := ⟨sqR1 HO_556003 BK616⟩
            have n3_ : Aside0 (Kd.R (Kd.int .i64) 3 ((((((w84.setCell ⟨gb616, 0, none⟩ (.int .i64 t609)).setCell ⟨gb616, 1, none⟩ (.int .i64 t610)).setCell ⟨gb616, 2, none⟩ (.int .i64 t611)).setCell ⟨gb616, 3, none⟩ (.int .i64 t612)).setCell ⟨gb616, 4, none⟩ (.int .i64 t613)).setCell ⟨gb616, 5, none⟩ (.int .i64 t614)) w.heap.size (fun _ => True) (.slice Ao33 t560.length co33) t560) := ⟨sqR1 HO_580001 BK616⟩
            have n4_ : Aside0 (Kd.R (Kd.int .i64) 3 ((((((w84.setCell ⟨gb616, 0, none⟩ (.int .i64 t609)).setCell ⟨gb616, 1, none⟩ (.int .i64 t610)).setCell ⟨gb616, 2, none⟩ (.int .i64 t611)).setCell ⟨gb616, 3, none⟩ (.int .i64 t612)).setCell ⟨gb616, 4, none⟩ (.int .i64 t613)).setCell ⟨gb616, 5, none⟩ (.int .i64 t614)) w.heap.size (fun _ => True) (.slice Ao34 t563.length co34) t563) := ⟨sqR1 HO_580002 BK616⟩
            have n5_ : Aside0 (Kd.R (Kd.int .i64) 3 ((((((w84.setCell ⟨gb616, 0, none⟩ (.int .i64 t609)).setCell ⟨gb616, 1, none⟩ (.int .i64 t610)).setCell ⟨gb616, 2, none⟩ (.int .i64 t611)).setCell ⟨gb616, 3, none⟩ (.int .i64 t612)).setCell ⟨gb616, 4, none⟩ (.int .i64 t613)).setCell ⟨gb616, 5, none⟩ (.int .i64 t614)) w.heap.size (fun _ => True) (.slice Ao35 t566.length co35) t566) := ⟨sqR1 HO_580003 BK616⟩
            have n6_ : Aside0 (Kd.R (Kd.int .i64) 3 ((((((w84.setCell ⟨gb616, 0, none⟩ (.int .i64 t609)).setCell ⟨gb616, 1, none⟩ (.int .i64 t610)).setCell ⟨gb616, 2, none⟩ (.int .i64 t611)).setCell ⟨gb616, 3, none⟩ (.int .i64 t612)).setCell ⟨gb616, 4, none⟩ (.int .i64 t613)).setCell ⟨gb616, 5, none⟩ (.int .i64 t614)) w.heap.size (fun _ => True) (.slice Ao38 t570.length co38) t570) := ⟨sqR1 HO_581001 BK616⟩
            have n7_ : Aside0 (Kd.R (Kd.int .i64) 3 ((((((w84.setCell ⟨gb616, 0, none⟩ (.int .i64 t609)).setCell ⟨gb616, 1, none⟩ (.int .i64 t610)).setCell ⟨gb616, 2, none⟩ (.int .i64 t611)).setCell ⟨gb616, 3, none⟩ (.int .i64 t612)).setCell ⟨gb616, 4, none⟩ (.int .i64 t613)).setCell ⟨gb616, 5, none⟩ (.int .i64 t614)) w.heap.size (fun _ => True) (.slice Ao39 t573.length co39) t573) := ⟨sqR1 HO_581002 BK616⟩
            have n8_ : Aside0 (Kd.R (Kd.int .i64) 3 ((((((w84.setCell ⟨gb616, 0, none⟩ (.int .i64 t609)).setCell ⟨gb616, 1, none⟩ (.int .i64 t610)).setCell ⟨gb616, 2, none⟩ (.int .i64 t611)).setCell ⟨gb616, 3, none⟩ (.int .i64 t612)).setCell ⟨gb616, 4, none⟩ (.int .i64 t613)).setCell ⟨gb616, 5, none⟩ (.int .i64 t614)) w.heap.size (fun _ => True) (.slice Ao40 t576.length co40) t576) := ⟨sqR1 HO_581003 BK616⟩
            have n9_ : Aside0 (Kd.R (Kd.int .i64) 3 ((((((w84.setCell ⟨gb616, 0, none⟩ (.int .i64 t609)).setCell ⟨gb616, 1, none⟩ (.int .i64 t610)).setCell ⟨gb616, 2, none⟩ (.int .i64 t611)).setCell ⟨gb616, 3, none⟩ (.int .i64 t612)).setCell ⟨gb616, 4, none⟩ (.int .i64 t613)).setCell ⟨gb616, 5, none⟩ (.int .i64 t614)) w.heap.size (fun _ => True) (.slice Ao75 t586.length co75) t586) := ⟨sqR1 HO588 BK616⟩
            have n10_ : Aside0 (Kd.R (Kd.int .i64) 3 ((((((w84.setCell ⟨gb616, 0, none⟩ (.int .i64 t609)).setCell ⟨gb616, 1, none⟩ (.int .i64 t610)).setCell ⟨gb616, 2, none⟩ (.int .i64 t611)).setCell ⟨gb616, 3, none⟩ (.int .i64 t612)).setCell ⟨gb616, 4, none⟩ (.int .i64 t613)).setCell ⟨gb616, 5, none⟩ (.int .i64 t614)) w.heap.size (fun _ => True) (.slice Ao76 t589.length co76) t589) := ⟨sqR1 HO591 BK616⟩
            have n11_ : Aside0 (Kd.R (Kd.int .i64) 3 ((((((w84.setCell ⟨gb616, 0, none⟩ (.int .i64 t609)).setCell ⟨gb616, 1, none⟩ (.int .i64 t610)).setCell ⟨gb616, 2, none⟩ (.int .i64 t611)).setCell ⟨gb616, 3, none⟩ (.int .i64 t612)).setCell ⟨gb616, 4, none⟩ (.int .i64 t613)).setCell ⟨gb616, 5, none⟩ (.int .i64 t614)) w.heap.size (fun _ => True) (.slice Ao77 t592.length co77) t592) := ⟨sqR1 HO594 BK616⟩
            have n12_ : Aside0 (Kd.R (Kd.int .i64) 3 ((((((w84.setCell ⟨gb616, 0, none⟩ (.int .i64 t609)).setCell ⟨gb616, 1, none⟩ (.int .i64 t610)).setCell ⟨gb616, 2, none⟩ (.int .i64 t611)).setCell ⟨gb616, 3, none⟩ (.int .i64 t612)).setCell ⟨gb616, 4, none⟩ (.int .i64 t613)).setCell ⟨gb616, 5, none⟩ (.int .i64 t614)) w.heap.size (fun _ => True) (.slice Ao82 t601.length co82) t601) := ⟨sqR1 HO603 BK616⟩
            have n13_ : Aside0 (((((((w84.setCell ⟨gb616, 0, none⟩ (.int .i64 t609)).setCell ⟨gb616, 1, none⟩ (.int .i64 t610)).setCell ⟨gb616, 2, none⟩ (.int .i64 t611)).setCell ⟨gb616, 3, none⟩ (.int .i64 t612)).setCell ⟨gb616, 4, none⟩ (.int .i64 t613)).setCell ⟨gb616, 5, none⟩ (.int .i64 t614)).heap[gb555]? = some (.cells #[.int .i64 t542, .slice Ao10 t543.length co10, .slice Ao11 t546.length co11, .slice Ao12 t549.length co12] 33 (0, 0))) := ⟨bp BK555⟩
            have n14_ : Aside0 (((((((w84.setCell ⟨gb616, 0, none⟩ (.int .i64 t609)).setCell ⟨gb616, 1, none⟩ (.int .i64 t610)).setCell ⟨gb616, 2, none⟩ (.int .i64 t611)).setCell ⟨gb616, 3, none⟩ (.int .i64 t612)).setCell ⟨gb616, 4, none⟩ (.int .i64 t613)).setCell ⟨gb616, 5, none⟩ (.int .i64 t614)).heap[gb579]? = some (.cells #[.int .i64 t559, .slice Ao33 t560.length co33, .slice Ao34 t563.length co34, .slice Ao35 t566.length co35] 33 (0, 0))) := ⟨bp BK579⟩
            have n15_ : Aside0 (((((((w84.setCell ⟨gb616, 0, none⟩ (.int .i64 t609)).setCell ⟨gb616, 1, none⟩ (.int .i64 t610)).setCell ⟨gb616, 2, none⟩ (.int .i64 t611)).setCell ⟨gb616, 3, none⟩ (.int .i64 t612)).setCell ⟨gb616, 4, none⟩ (.int .i64 t613)).setCell ⟨gb616, 5, none⟩ (.int .i64 t614)).heap[gb580]? = some (.cells #[.int .i64 t569, .slice Ao38 t570.length co38, .slice Ao39 t573.length co39, .slice Ao40 t576.length co40] 33 (0, 0))) := ⟨bp BK580⟩
            have n16_ : Aside0 (((((((w84.setCell ⟨gb616, 0, none⟩ (.int .i64 t609)).setCell ⟨gb616, 1, none⟩ (.int .i64 t610)).setCell ⟨gb616, 2, none⟩ (.int .i64 t611)).setCell ⟨gb616, 3, none⟩ (.int .i64 t612)).setCell ⟨gb616, 4, none⟩ (.int .i64 t613)).setCell ⟨gb616, 5, none⟩ (.int .i64 t614)).heap[gb607]? = some (.cells #[.int .i64 t585, .slice Ao75 t586.length co75, .slice Ao76 t589.length co76, .slice Ao77 t592.length co77] 33 (0, 0))) := ⟨bp BK607⟩
            have n17_ : Aside0 (((((((w84.setCell ⟨gb616, 0, none⟩ (.int .i64 t609)).setCell ⟨gb616, 1, none⟩ (.int .i64 t610)).setCell ⟨gb616, 2, none⟩ (.int .i64 t611)).setCell ⟨gb616, 3, none⟩ (.int .i64 t612)).setCell ⟨gb616, 4, none⟩ (.int .i64 t613)).setCell ⟨gb616, 5, none⟩ (.int .i64 t614)).heap[gb608]? = some (.cells #[.int .i64 t596, .int .i64 t597, .int .i64 t598, .int .i64 t599, .int .i64 t600] 45 (0, 0))) := ⟨bp BK608⟩
            have n18_ : Aside0 (((((((w84.setCell ⟨gb616, 0, none⟩ (.int .i64 t609)).setCell ⟨gb616, 1, none⟩ (.int .i64 t610)).setCell ⟨gb616, 2, none⟩ (.int .i64 t611)).setCell ⟨gb616, 3, none⟩ (.int .i64 t612)).setCell ⟨gb616, 4, none⟩ (.int .i64 t613)).setCell ⟨gb616, 5, none⟩ (.int .i64 t614)).heap[gb616]? = some (.cells #[.int .i64 t609, .int .i64 t610, .int .i64 t611, .int .i64 t612, .int .i64 t613, .int .i64 t614] 83 (0, 0))) := ⟨bp BK616⟩
            have n19_ : Aside0 (Below w.heap.size w ((((((w84.setCell ⟨gb616, 0, none⟩ (.int .i64 t609)).setCell ⟨gb616, 1, none⟩ (.int .i64 t610)).setCell ⟨gb616, 2, none⟩ (.int .i64 t611)).setCell ⟨gb616, 3, none⟩ (.int .i64 t612)).setCell ⟨gb616, 4, none⟩ (.int .i64 t613)).setCell ⟨gb616, 5, none⟩ (.int .i64 t614))) := ⟨sqh⟩
            (try clear HO_556001)
            (try clear HO_556002)
            (try clear HO_556003)
            (try clear HO_580001)
            (try clear HO_580002)
            (try clear HO_580003)
            (try clear HO_581001)
            (try clear HO_581002)
            (try clear HO_581003)
            (try clear HO588)
            (try clear HO591)
            (try clear HO594)
            (try clear HO603)
            (try clear BK555)
            (try clear BK579)
            (try clear BK580)
            (try clear BK607)
            (try clear BK608)
            (try clear BK616)
            (try clear HB)
            generalize ((((((w84.setCell ⟨gb616, 0, none⟩ (.int .i64 t609)).setCell ⟨gb616, 1, none⟩ (.int .i64 t610)).setCell ⟨gb616, 2, none⟩ (.int .i64 t611)).setCell ⟨gb616, 3, none⟩ (.int .i64 t612)).setCell ⟨gb616, 4, none⟩ (.int .i64 t613)).setCell ⟨gb616, 5, none⟩ (.int .i64 t614)) = w106 at n0_ n1_ n2_ n3_ n4_ n5_ n6_ n7_ n8_ n9_ n10_ n11_ n12_ n13_ n14_ n15_ n16_ n17_ n18_ n19_ ⊢
            have HO_556001 := n0_
            have HO_556002 := n1_
            have HO_556003 := n2_
            have HO_580001 := n3_
            have HO_580002 := n4_
            have HO_580003 := n5_
            have HO_581001 := n6_
            have HO_581002 := n7_
            have HO_581003 := n8_
            have HO588 := n9_
            have HO591 := n10_
            have HO594 := n11_
            have HO603 := n12_
            have BK555 := n13_
            have BK579 := n14_
            have BK580 := n15_
            have BK607 := n16_
            have BK608 := n17_
            have BK616 := n18_
            have HB := n19_
            clear n0_ n1_ n2_ n3_ n4_ n5_ n6_ n7_ n8_ n9_ n10_ n11_ n12_ n13_ n14_ n15_ n16_ n17_ n18_ n19_
            replace HO_556001 := Aside0.mk (Kd.R_drew HO_556001.out)
            replace HO_556002 := Aside0.mk (Kd.R_drew HO_556002.out)
            replace HO_556003 := Aside0.mk (Kd.R_drew HO_556003.out)
            replace HO_580001 := Aside0.mk (Kd.R_drew HO_580001.out)
            replace HO_580002 := Aside0.mk (Kd.R_drew HO_580002.out)
            replace HO_580003 := Aside0.mk (Kd.R_drew HO_580003.out)
            replace HO_581001 := Aside0.mk (Kd.R_drew HO_581001.out)
            replace HO_581002 := Aside0.mk (Kd.R_drew HO_581002.out)
            replace HO_581003 := Aside0.mk (Kd.R_drew HO_581003.out)
            replace HO588 := Aside0.mk (Kd.R_drew HO588.out)
            replace HO591 := Aside0.mk (Kd.R_drew HO591.out)
            replace HO594 := Aside0.mk (Kd.R_drew HO594.out)
            replace HO603 := Aside0.mk (Kd.R_drew HO603.out)
            replace BK555 := Aside0.mk (blk_drew BK555.out)
            replace BK579 := Aside0.mk (blk_drew BK579.out)
            replace BK580 := Aside0.mk (blk_drew BK580.out)
            replace BK607 := Aside0.mk (blk_drew BK607.out)
            replace BK608 := Aside0.mk (blk_drew BK608.out)
            replace BK616 := Aside0.mk (blk_drew BK616.out)
            replace HB := Aside0.mk (below_drew1 HB.out)
            refine start_ (n := 22) (S := fun w' => True) (ds := []) #[false, false, false, false, false, false, false, false, false, false, false, false, false, false, false, false, false, false, false, false, false, false] sqk rfl rfl trivial (fun hHeld => ?_); refine with_tabW laws_FnAppraisal.tab18 laws_FnAppraisal.bits18 (fun HT_ HW_ => ?_)
            generalize w106.drew = w107 at HO_556001 HO_556002 HO_556003 HO_580001 HO_580002 HO_580003 HO_581001 HO_581002 HO_581003 HO588 HO591 HO594 HO603 BK555 BK579 BK580 BK607 BK608 BK616 HB hHeld ⊢
            refine pu 0 106 ?_; refine pu 1 107 ?_
            refine pure_ (i := 2) (N := some 108) (v := undef) (a' := ?_) #[true, true, true, false, false, false, false, false, false, false, false, false, false, false, false, false, false, false, false, false, false, false] rfl rfl (any_of HT_.out sqk) (fun _ _ _ h => h) (Or.inr ⟨by rfl, rfl⟩) ?_ ?_
            rotate_left
            ·simp only [Act.put, List.setIfInBounds_toArray, List.set_cons_zero, List.set_cons_succ, i64_w, i32_w]
             rfl
            refine pure_ (i := 3) (N := some 109) (v := undef) (a' := ?_) #[true, true, true, true, false, false, false, false, false, false, false, false, false, false, false, false, false, false, false, false, false, false] rfl rfl (any_of HT_.out sqk) (fun _ _ _ h => h) (Or.inr ⟨by rfl, rfl⟩) ?_ ?_
            rotate_left
            ·simp only [Act.put, List.setIfInBounds_toArray, List.set_cons_zero, List.set_cons_succ, i64_w, i32_w]
             rfl
            refine pure_ (i := 4) (N := some 110) (v := undef) (a' := ?_) #[true, true, true, true, true, false, false, false, false, false, false, false, false, false, false, false, false, false, false, false, false, false] rfl rfl (any_of HT_.out sqk) (fun _ _ _ h => h) (Or.inr ⟨by rfl, rfl⟩) ?_ ?_
            rotate_left
            ·simp only [Act.put, List.setIfInBounds_toArray, List.set_cons_zero, List.set_cons_succ, i64_w, i32_w]
             rfl
            refine pure_ (i := 5) (N := some 111) (v := undef) (a' := ?_) #[true, true, true, true, true, true, false, false, false, false, false, false, false, false, false, false, false, false, false, false, false, false] rfl rfl (any_of HT_.out sqk) (fun _ _ _ h => h) (Or.inr ⟨by rfl, rfl⟩) ?_ ?_
            rotate_left
            ·simp only [Act.put, List.setIfInBounds_toArray, List.set_cons_zero, List.set_cons_succ, i64_w, i32_w]
             rfl
            refine pure_ (i := 6) (N := some 112) (v := undef) (a' := ?_) #[true, true, true, true, true, true, true, false, false, false, false, false, false, false, false, false, false, false, false, false, false, false] rfl rfl (any_of HT_.out sqk) (fun _ _ _ h => h) (Or.inr ⟨by rfl, rfl⟩) ?_ ?_
            rotate_left
            ·simp only [Act.put, List.setIfInBounds_toArray, List.set_cons_zero, List.set_cons_succ, i64_w, i32_w]
             rfl
            refine pure_ (i := 7) (N := some 113) (v := undef) (a' := ?_) #[true, true, true, true, true, true, true, true, false, false, false, false, false, false, false, false, false, false, false, false, false, false] rfl rfl (any_of HT_.out sqk) (fun _ _ _ h => h) (Or.inr ⟨by rfl, rfl⟩) ?_ ?_
            rotate_left
            ·simp only [Act.put, List.setIfInBounds_toArray, List.set_cons_zero, List.set_cons_succ, i64_w, i32_w]
             rfl
            refine pure_ (i := 8) (N := some 114) (v := undef) (a' := ?_) #[true, true, true, true, true, true, true, true, true, false, false, false, false, false, false, false, false, false, false, false, false, false] rfl rfl (any_of HT_.out sqk) (fun _ _ _ h => h) (Or.inr ⟨by rfl, rfl⟩) ?_ ?_
            rotate_left
            ·simp only [Act.put, List.setIfInBounds_toArray, List.set_cons_zero, List.set_cons_succ, i64_w, i32_w]
             rfl
            refine pure_ (i := 9) (N := some 115) (v := undef) (a' := ?_) #[true, true, true, true, true, true, true, true, true, true, false, false, false, false, false, false, false, false, false, false, false, false] rfl rfl (any_of HT_.out sqk) (fun _ _ _ h => h) (Or.inr ⟨by rfl, rfl⟩) ?_ ?_
            rotate_left
            ·simp only [Act.put, List.setIfInBounds_toArray, List.set_cons_zero, List.set_cons_succ, i64_w, i32_w]
             rfl
            refine pure_ (i := 10) (N := some 116) (v := undef) (a' := ?_) #[true, true, true, true, true, true, true, true, true, true, true, false, false, false, false, false, false, false, false, false, false, false] rfl rfl (any_of HT_.out sqk) (fun _ _ _ h => h) (Or.inr ⟨by rfl, rfl⟩) ?_ ?_
            rotate_left
            ·simp only [Act.put, List.setIfInBounds_toArray, List.set_cons_zero, List.set_cons_succ, i64_w, i32_w]
             rfl
            refine pure_ (i := 11) (N := some 117) (v := undef) (a' := ?_) #[true, true, true, true, true, true, true, true, true, true, true, true, false, false, false, false, false, false, false, false, false, false] rfl rfl (any_of HT_.out sqk) (fun _ _ _ h => h) (Or.inr ⟨by rfl, rfl⟩) ?_ ?_
            rotate_left
            ·simp only [Act.put, List.setIfInBounds_toArray, List.set_cons_zero, List.set_cons_succ, i64_w, i32_w]
             rfl
            refine pure_ (i := 12) (N := some 118) (v := undef) (a' := ?_) #[true, true, true, true, true, true, true, true, true, true, true, true, true, false, false, false, false, false, false, false, false, false] rfl rfl (any_of HT_.out sqk) (fun _ _ _ h => h) (Or.inr ⟨by rfl, rfl⟩) ?_ ?_
            rotate_left
            ·simp only [Act.put, List.setIfInBounds_toArray, List.set_cons_zero, List.set_cons_succ, i64_w, i32_w]
             rfl
            refine pure_ (i := 13) (N := some 119) (v := undef) (a' := ?_) #[true, true, true, true, true, true, true, true, true, true, true, true, true, true, false, false, false, false, false, false, false, false] rfl rfl (any_of HT_.out sqk) (fun _ _ _ h => h) (Or.inr ⟨by rfl, rfl⟩) ?_ ?_
            rotate_left
            ·simp only [Act.put, List.setIfInBounds_toArray, List.set_cons_zero, List.set_cons_succ, i64_w, i32_w]
             rfl
            refine pure_ (i := 14) (N := some 120) (v := undef) (a' := ?_) #[true, true, true, true, true, true, true, true, true, true, true, true, true, true, true, false, false, false, false, false, false, false] rfl rfl (any_of HT_.out sqk) (fun _ _ _ h => h) (Or.inr ⟨by rfl, rfl⟩) ?_ ?_
            rotate_left
            ·simp only [Act.put, List.setIfInBounds_toArray, List.set_cons_zero, List.set_cons_succ, i64_w, i32_w]
             rfl
            refine pure_ (i := 15) (N := some 121) (v := undef) (a' := ?_) #[true, true, true, true, true, true, true, true, true, true, true, true, true, true, true, true, false, false, false, false, false, false] rfl rfl (any_of HT_.out sqk) (fun _ _ _ h => h) (Or.inr ⟨by rfl, rfl⟩) ?_ ?_
            rotate_left
            ·simp only [Act.put, List.setIfInBounds_toArray, List.set_cons_zero, List.set_cons_succ, i64_w, i32_w]
             rfl
            refine pure_ (i := 16) (N := some 122) (v := undef) (a' := ?_) #[true, true, true, true, true, true, true, true, true, true, true, true, true, true, true, true, true, false, false, false, false, false] rfl rfl (any_of HT_.out sqk) (fun _ _ _ h => h) (Or.inr ⟨by rfl, rfl⟩) ?_ ?_
            rotate_left
            ·simp only [Act.put, List.setIfInBounds_toArray, List.set_cons_zero, List.set_cons_succ, i64_w, i32_w]
             rfl
            refine pure_ (i := 17) (N := some 123) (v := undef) (a' := ?_) #[true, true, true, true, true, true, true, true, true, true, true, true, true, true, true, true, true, true, false, false, false, false] rfl rfl (any_of HT_.out sqk) (fun _ _ _ h => h) (Or.inr ⟨by rfl, rfl⟩) ?_ ?_
            rotate_left
            ·simp only [Act.put, List.setIfInBounds_toArray, List.set_cons_zero, List.set_cons_succ, i64_w, i32_w]
             rfl
            refine pure_ (i := 18) (N := some 124) (v := undef) (a' := ?_) #[true, true, true, true, true, true, true, true, true, true, true, true, true, true, true, true, true, true, true, false, false, false] rfl rfl (any_of HT_.out sqk) (fun _ _ _ h => h) (Or.inr ⟨by rfl, rfl⟩) ?_ ?_
            rotate_left
            ·simp only [Act.put, List.setIfInBounds_toArray, List.set_cons_zero, List.set_cons_succ, i64_w, i32_w]
             rfl
            refine pure_ (i := 19) (N := some 125) (v := undef) (a' := ?_) #[true, true, true, true, true, true, true, true, true, true, true, true, true, true, true, true, true, true, true, true, false, false] rfl rfl (any_of HT_.out sqk) (fun _ _ _ h => h) (Or.inr ⟨by rfl, rfl⟩) ?_ ?_
            rotate_left
            ·simp only [Act.put, List.setIfInBounds_toArray, List.set_cons_zero, List.set_cons_succ, i64_w, i32_w]
             rfl
            refine pure_ (i := 20) (N := some 126) (v := undef) (a' := ?_) #[true, true, true, true, true, true, true, true, true, true, true, true, true, true, true, true, true, true, true, true, true, false] rfl rfl (any_of HT_.out sqk) (fun _ _ _ h => h) (Or.inr ⟨by rfl, rfl⟩) ?_ ?_
            rotate_left
            ·simp only [Act.put, List.setIfInBounds_toArray, List.set_cons_zero, List.set_cons_succ, i64_w, i32_w]
             rfl
            refine pu 21 127 ?_
            refine dn ?_
            try go_wp2
            go_meet
            case rel => exact ⟨_, (false), sqr, H', ⟨by have := HJ5.out; have := HK2.out; have := HJ25.out; first | omega | exact Nat.le_refl _⟩, ⟨sqR0 HO_556001⟩, ⟨sqR0 HO_556002⟩, ⟨sqR0 HO_556003⟩, ⟨sqR0 HO_580001⟩, ⟨sqR0 HO_580002⟩, ⟨sqR0 HO_580003⟩, ⟨sqR0 HO_581001⟩, ⟨sqR0 HO_581002⟩, ⟨sqR0 HO_581003⟩, ⟨sqR0 HO588⟩, ⟨sqR0 HO591⟩, ⟨sqR0 HO594⟩, ⟨sqb BK555.out⟩, ⟨sqb BK579.out⟩, ⟨sqb BK580.out⟩, ⟨sqb BK607.out⟩, ⟨sqb BK608.out⟩, ⟨sqb BK616.out⟩, ⟨sqh⟩⟩
          case rest =>
           clear HC66; try clear c2; try clear p2; try clear c9; try clear c29; try clear c91; try clear c93; try clear c93b0; try clear c93b1
           obtain ⟨kq, x127_65, rfl, HA, HJ65, HO_556001, HO_556002, HO_556003, HO_580001, HO_580002, HO_580003, HO_581001, HO_581002, HO_581003, HO_608001, HO_608002, HO_608003, BK555, BK579, BK580, BK607, BK608, BK616, HB⟩ := hcut
           cases kq with
           | zero => exact absurd HA.out (by simp [laws_FnAppraisal.j3])
           | succ kj65 =>
            have H := HA.out
            clear HA
            simp only [laws_FnAppraisal.j3] at H
            by_cases c108 : x127_65 = true
            ·subst c108
             replace H := iT H
             exact absurd ((Option.some.inj H).trans hr_.out) (by decide)
            ·replace c108 := Bool.eq_false_iff.mpr c108
             subst c108
             replace H := iF H
             obtain ⟨⟨t619, t620, t623, t626, t629⟩, A109, H⟩ := bA H
             dsimp only at H
             obtain ⟨t631, A110, H⟩ := bA H
             by_cases c111 : t631 = true
             ·subst c111
              replace H := iT H
              by_cases c112 : (t629 == (decide (t569 > t559))) = true
              ·rw [if_pos c112] at H
               have c112b0 : (t629 == (decide (t569 > t559))) = true := c112
               (try (have c112b1 : decide (t629 = (decide (t569 > t559))) = true := by simpa using c112))
               (try (have c112b2 : (t629 == (decide (t569 > t559))) = true := by simpa using c112))
               clear c112
               obtain rfl := Option.some.inj H
               have hnb113 := NB579_555.out
               have hnc113 := NB555_579.out
               have hnb114 := NB579_580.out
               have hnc114 := NB580_579.out
               have hnb115 := NB579_607.out
               have hnc115 := NB607_579.out
               have hnb116 := NB579_608.out
               have hnc116 := NB608_579.out
               have hnb117 := NB579_616.out
               have hnc117 := NB616_579.out
               obtain ⟨hcz118_0, hcz118_1, hcz118_2, hcz118_3, hfz118_0, hfz118_1, hfz118_2, hfz118_3⟩ := sd4 BK579.out
               have hnb119 := NB580_555.out
               have hnc119 := NB555_580.out
               have hnb120 := NB580_607.out
               have hnc120 := NB607_580.out
               have hnb121 := NB580_608.out
               have hnc121 := NB608_580.out
               have hnb122 := NB580_616.out
               have hnc122 := NB616_580.out
               obtain ⟨hcz123_0, hcz123_1, hcz123_2, hcz123_3, hfz123_0, hfz123_1, hfz123_2, hfz123_3⟩ := sd4 BK580.out
               go_wp2_with (first | ((with_reducible refine gate_callee (f := 40) rfl ?_); refine goesL_ (some 131) rfl rfl Try.func40 sqk rfl #[.agg #[.int .i64 t559, .slice Ao33 t560.length co33, .slice Ao34 t563.length co34, .slice Ao35 t566.length co35], .agg #[.int .i64 t569, .slice Ao38 t570.length co38, .slice Ao39 t573.length co39, .slice Ao40 t576.length co40]] rfl sqm ?_; (with_reducible refine (impl_ReplaceAllowed.calls kj65 t559 _ _ t560 _ _ t563 _ _ t566 t569 _ _ t570 _ _ t573 _ _ t576 t619 t620 t623 t626 t629 _ ?side1 ?side2 ?side3 ?side4 ?side5 ?side6 ?side7 ?side8 ?side9 ?side10 ?side11 ?side12 A109.out).mono ?_); (case side1 => repeat (first | exact (Kd.R_reads' HO_580001.out).2.2 | (with_reducible refine Kd.C_alloc ?_ _) | (with_reducible refine Kd.C_drewN ?_ _) | (with_reducible refine Kd.C_drew ?_))); (case side2 => exact (Kd.R_reads' HO_580001.out).2.1); (case side3 => repeat (first | exact (Kd.R_reads' HO_580002.out).2.2 | (with_reducible refine Kd.C_alloc ?_ _) | (with_reducible refine Kd.C_drewN ?_ _) | (with_reducible refine Kd.C_drew ?_))); (case side4 => exact (Kd.R_reads' HO_580002.out).2.1); (case side5 => repeat (first | exact (Kd.R_reads' HO_580003.out).2.2 | (with_reducible refine Kd.C_alloc ?_ _) | (with_reducible refine Kd.C_drewN ?_ _) | (with_reducible refine Kd.C_drew ?_))); (case side6 => exact (Kd.R_reads' HO_580003.out).2.1); (case side7 => repeat (first | exact (Kd.R_reads' HO_581001.out).2.2 | (with_reducible refine Kd.C_alloc ?_ _) | (with_reducible refine Kd.C_drewN ?_ _) | (with_reducible refine Kd.C_drew ?_))); (case side8 => exact (Kd.R_reads' HO_581001.out).2.1); (case side9 => repeat (first | exact (Kd.R_reads' HO_581002.out).2.2 | (with_reducible refine Kd.C_alloc ?_ _) | (with_reducible refine Kd.C_drewN ?_ _) | (with_reducible refine Kd.C_drew ?_))); (case side10 => exact (Kd.R_reads' HO_581002.out).2.1); (case side11 => repeat (first | exact (Kd.R_reads' HO_581003.out).2.2 | (with_reducible refine Kd.C_alloc ?_ _) | (with_reducible refine Kd.C_drewN ?_ _) | (with_reducible refine Kd.C_drew ?_))); (case side12 => exact (Kd.R_reads' HO_581003.out).2.1); rintro e w124 ⟨v621, v624, v627, rfl, ho0, ho1, ho2, hb⟩; refine ⟨_, rfl, ?_⟩; replace HO_556001 := Aside0.mk (Kd.R_below (sqq HO_556001.out) hb); replace HO_556002 := Aside0.mk (Kd.R_below (sqq HO_556002.out) hb); replace HO_556003 := Aside0.mk (Kd.R_below (sqq HO_556003.out) hb); replace HO_580001 := Aside0.mk (Kd.R_below (sqq HO_580001.out) hb); replace HO_580002 := Aside0.mk (Kd.R_below (sqq HO_580002.out) hb); replace HO_580003 := Aside0.mk (Kd.R_below (sqq HO_580003.out) hb); replace HO_581001 := Aside0.mk (Kd.R_below (sqq HO_581001.out) hb); replace HO_581002 := Aside0.mk (Kd.R_below (sqq HO_581002.out) hb); replace HO_581003 := Aside0.mk (Kd.R_below (sqq HO_581003.out) hb); replace HO_608001 := Aside0.mk (Kd.R_below (sqq HO_608001.out) hb); replace HO_608002 := Aside0.mk (Kd.R_below (sqq HO_608002.out) hb); replace HO_608003 := Aside0.mk (Kd.R_below (sqq HO_608003.out) hb); have HO622 := Aside0.mk (Kd.R_mono (ok' := fun _ => True) (Kd.R_lower ho0 (below_size sqh)) (fun _ _ => trivial)); have HO625 := Aside0.mk (Kd.R_mono (ok' := fun _ => True) (Kd.R_lower ho1 (below_size sqh)) (fun _ _ => trivial)); have HO628 := Aside0.mk (Kd.R_mono (ok' := fun _ => True) (Kd.R_lower ho2 (below_size sqh)) (fun _ _ => trivial)); replace BK555 := Aside0.mk (blk_below (bo BK555) hb); replace BK579 := Aside0.mk (blk_below (bo BK579) hb); replace BK580 := Aside0.mk (blk_below (bo BK580) hb); replace BK607 := Aside0.mk (blk_below (bo BK607) hb); replace BK608 := Aside0.mk (blk_below (bo BK608) hb); replace BK616 := Aside0.mk (blk_below (bo BK616) hb); replace HB := Aside0.mk (below_step sqh hb); (try clear hb); (try clear ho0); (try clear ho1); (try clear ho2)) | ((with_reducible refine gate_dst (N := 20) rfl ?_); refine bx (N := 20) (cs := #[.int .i64 0, .slice none 0 0, .slice none 0 0, .slice none 0 0]) (t := 33) ?_; intro gb630 hg w125 hbox hb; replace HO_556001 := Aside0.mk (Kd.R_below (sqq HO_556001.out) hb); replace HO_556002 := Aside0.mk (Kd.R_below (sqq HO_556002.out) hb); replace HO_556003 := Aside0.mk (Kd.R_below (sqq HO_556003.out) hb); replace HO_580001 := Aside0.mk (Kd.R_below (sqq HO_580001.out) hb); replace HO_580002 := Aside0.mk (Kd.R_below (sqq HO_580002.out) hb); replace HO_580003 := Aside0.mk (Kd.R_below (sqq HO_580003.out) hb); replace HO_581001 := Aside0.mk (Kd.R_below (sqq HO_581001.out) hb); replace HO_581002 := Aside0.mk (Kd.R_below (sqq HO_581002.out) hb); replace HO_581003 := Aside0.mk (Kd.R_below (sqq HO_581003.out) hb); replace HO_608001 := Aside0.mk (Kd.R_below (sqq HO_608001.out) hb); replace HO_608002 := Aside0.mk (Kd.R_below (sqq HO_608002.out) hb); replace HO_608003 := Aside0.mk (Kd.R_below (sqq HO_608003.out) hb); replace HO622 := Aside0.mk (Kd.R_below (sqq HO622.out) hb); replace HO625 := Aside0.mk (Kd.R_below (sqq HO625.out) hb); replace HO628 := Aside0.mk (Kd.R_below (sqq HO628.out) hb); have BK630 := Aside0.mk (hbox); have GW630 := Aside0.mk ((z13_0 : w.heap.size ≤ gb630)); have GE630 := Aside0.mk ((z13_0 : w.heap.size ≤ gb630)); replace HB := Aside0.mk (below_step sqh hb); have NB555_630 := Aside0.mk ((z13_1 : gb555 ≠ gb630)); have NB630_555 := Aside0.mk ((z13_2 : gb630 ≠ gb555)); replace BK555 := Aside0.mk (blk_below (bo BK555) hb); have NB579_630 := Aside0.mk ((z13_3 : gb579 ≠ gb630)); have NB630_579 := Aside0.mk ((z13_4 : gb630 ≠ gb579)); replace BK579 := Aside0.mk (blk_below (bo BK579) hb); have NB580_630 := Aside0.mk ((by rw [hg]; exact Nat.ne_of_lt (blk_lt (bo BK580)) : gb580 ≠ gb630)); have NB630_580 := Aside0.mk ((by rw [hg]; exact Nat.ne_of_gt (blk_lt (bo BK580)) : gb630 ≠ gb580)); replace BK580 := Aside0.mk (blk_below (bo BK580) hb); have NB607_630 := Aside0.mk ((by rw [hg]; exact Nat.ne_of_lt (blk_lt (bo BK607)) : gb607 ≠ gb630)); have NB630_607 := Aside0.mk ((by rw [hg]; exact Nat.ne_of_gt (blk_lt (bo BK607)) : gb630 ≠ gb607)); replace BK607 := Aside0.mk (blk_below (bo BK607) hb); have NB608_630 := Aside0.mk ((by rw [hg]; exact Nat.ne_of_lt (blk_lt (bo BK608)) : gb608 ≠ gb630)); have NB630_608 := Aside0.mk ((by rw [hg]; exact Nat.ne_of_gt (blk_lt (bo BK608)) : gb630 ≠ gb608)); replace BK608 := Aside0.mk (blk_below (bo BK608) hb); have NB616_630 := Aside0.mk ((by rw [hg]; exact Nat.ne_of_lt (blk_lt (bo BK616)) : gb616 ≠ gb630)); have NB630_616 := Aside0.mk ((by rw [hg]; exact Nat.ne_of_gt (blk_lt (bo BK616)) : gb630 ≠ gb616)); replace BK616 := Aside0.mk (blk_below (bo BK616) hb); clear hb hbox hg; have hnb126 := NB630_555.out; have hnc126 := NB555_630.out; have hnb127 := NB630_579.out; have hnc127 := NB579_630.out; have hnb128 := NB630_580.out; have hnc128 := NB580_630.out; have hnb129 := NB630_607.out; have hnc129 := NB607_630.out; have hnb130 := NB630_608.out; have hnc130 := NB608_630.out; have hnb131 := NB630_616.out; have hnc131 := NB616_630.out; obtain ⟨hcz132_0, hcz132_1, hcz132_2, hcz132_3, hfz132_0, hfz132_1, hfz132_2, hfz132_3⟩ := sd4 BK630.out; obtain ⟨Ao133, co133, eo133⟩ := Kd.R_slice HO622.out; subst eo133; obtain ⟨Ao134, co134, eo134⟩ := Kd.R_slice HO625.out; subst eo134; obtain ⟨Ao135, co135, eo135⟩ := Kd.R_slice HO628.out; subst eo135) | ((with_reducible refine gate_store (t := 33) (p := 20) rfl ?_); refine store_event (t := 33) (p := 20) (v := ?vo_w136) (w1 := ((((w125.setCell ⟨gb630, 0, none⟩ (.int .i64 t619)).setCell ⟨gb630, 1, none⟩ (.slice Ao133 t620.length co133)).setCell ⟨gb630, 2, none⟩ (.slice Ao134 t623.length co134)).setCell ⟨gb630, 3, none⟩ (.slice Ao135 t626.length co135))) ?hg ?ho ?hn ?hr ?_; (case ho => rfl); (case hg => rfl); (case hn => rfl); (case hr => first | (go_simp; done) | (go_simp; rfl)); intro w136 hw; have n0_ : Aside0 (Kd.R (Kd.int .i64) 3 w136 w.heap.size (fun _ => True) (.slice Ao10 t543.length co10) t543) := ⟨(by rw [hw]; exact (sqR1 HO_556001 BK630))⟩; have n1_ : Aside0 (Kd.R (Kd.int .i64) 3 w136 w.heap.size (fun _ => True) (.slice Ao11 t546.length co11) t546) := ⟨(by rw [hw]; exact (sqR1 HO_556002 BK630))⟩; have n2_ : Aside0 (Kd.R (Kd.int .i64) 3 w136 w.heap.size (fun _ => True) (.slice Ao12 t549.length co12) t549) := ⟨(by rw [hw]; exact (sqR1 HO_556003 BK630))⟩; have n3_ : Aside0 (Kd.R (Kd.int .i64) 3 w136 w.heap.size (fun _ => True) (.slice Ao33 t560.length co33) t560) := ⟨(by rw [hw]; exact (sqR1 HO_580001 BK630))⟩; have n4_ : Aside0 (Kd.R (Kd.int .i64) 3 w136 w.heap.size (fun _ => True) (.slice Ao34 t563.length co34) t563) := ⟨(by rw [hw]; exact (sqR1 HO_580002 BK630))⟩; have n5_ : Aside0 (Kd.R (Kd.int .i64) 3 w136 w.heap.size (fun _ => True) (.slice Ao35 t566.length co35) t566) := ⟨(by rw [hw]; exact (sqR1 HO_580003 BK630))⟩; have n6_ : Aside0 (Kd.R (Kd.int .i64) 3 w136 w.heap.size (fun _ => True) (.slice Ao38 t570.length co38) t570) := ⟨(by rw [hw]; exact (sqR1 HO_581001 BK630))⟩; have n7_ : Aside0 (Kd.R (Kd.int .i64) 3 w136 w.heap.size (fun _ => True) (.slice Ao39 t573.length co39) t573) := ⟨(by rw [hw]; exact (sqR1 HO_581002 BK630))⟩; have n8_ : Aside0 (Kd.R (Kd.int .i64) 3 w136 w.heap.size (fun _ => True) (.slice Ao40 t576.length co40) t576) := ⟨(by rw [hw]; exact (sqR1 HO_581003 BK630))⟩; have n9_ : Aside0 (Kd.R (Kd.int .i64) 3 w136 w.heap.size (fun _ => True) (.slice Ao75 t586.length co75) t586) := ⟨(by rw [hw]; exact (sqR1 HO_608001 BK630))⟩; have n10_ : Aside0 (Kd.R (Kd.int .i64) 3 w136 w.heap.size (fun _ => True) (.slice Ao76 t589.length co76) t589) := ⟨(by rw [hw]; exact (sqR1 HO_608002 BK630))⟩; have n11_ : Aside0 (Kd.R (Kd.int .i64) 3 w136 w.heap.size (fun _ => True) (.slice Ao77 t592.length co77) t592) := ⟨(by rw [hw]; exact (sqR1 HO_608003 BK630))⟩; have n12_ : Aside0 (Kd.R (Kd.int .i64) 3 w136 w.heap.size (fun _ => True) (.slice Ao133 t620.length co133) t620) := ⟨(by rw [hw]; exact (sqR1 HO622 BK630))⟩; have n13_ : Aside0 (Kd.R (Kd.int .i64) 3 w136 w.heap.size (fun _ => True) (.slice Ao134 t623.length co134) t623) := ⟨(by rw [hw]; exact (sqR1 HO625 BK630))⟩; have n14_ : Aside0 (Kd.R (Kd.int .i64) 3 w136 w.heap.size (fun _ => True) (.slice Ao135 t626.length co135) t626) := ⟨(by rw [hw]; exact (sqR1 HO628 BK630))⟩; have n15_ : Aside0 (w136.heap[gb555]? = some (.cells #[.int .i64 t542, .slice Ao10 t543.length co10, .slice Ao11 t546.length co11, .slice Ao12 t549.length co12] 33 (0, 0))) := ⟨(by rw [hw]; exact (bp BK555))⟩; have n16_ : Aside0 (w136.heap[gb579]? = some (.cells #[.int .i64 t559, .slice Ao33 t560.length co33, .slice Ao34 t563.length co34, .slice Ao35 t566.length co35] 33 (0, 0))) := ⟨(by rw [hw]; exact (bp BK579))⟩; have n17_ : Aside0 (w136.heap[gb580]? = some (.cells #[.int .i64 t569, .slice Ao38 t570.length co38, .slice Ao39 t573.length co39, .slice Ao40 t576.length co40] 33 (0, 0))) := ⟨(by rw [hw]; exact (bp BK580))⟩; have n18_ : Aside0 (w136.heap[gb607]? = some (.cells #[.int .i64 t585, .slice Ao75 t586.length co75, .slice Ao76 t589.length co76, .slice Ao77 t592.length co77] 33 (0, 0))) := ⟨(by rw [hw]; exact (bp BK607))⟩; have n19_ : Aside0 (w136.heap[gb608]? = some (.cells #[.int .i64 t596, .int .i64 t597, .int .i64 t598, .int .i64 t599, .int .i64 t600] 45 (0, 0))) := ⟨(by rw [hw]; exact (bp BK608))⟩; have n20_ : Aside0 (w136.heap[gb616]? = some (.cells #[.int .i64 t609, .int .i64 t610, .int .i64 t611, .int .i64 t612, .int .i64 t613, .int .i64 t614] 83 (0, 0))) := ⟨(by rw [hw]; exact (bp BK616))⟩; have n21_ : Aside0 (w136.heap[gb630]? = some (.cells #[.int .i64 t619, .slice Ao133 t620.length co133, .slice Ao134 t623.length co134, .slice Ao135 t626.length co135] 33 (0, 0))) := ⟨(by rw [hw]; exact (bp BK630))⟩; have n22_ : Aside0 (Below w.heap.size w w136) := ⟨(by rw [hw]; exact sqh)⟩; clear hw; clear HO_556001; clear HO_556002; clear HO_556003; clear HO_580001; clear HO_580002; clear HO_580003; clear HO_581001; clear HO_581002; clear HO_581003; clear HO_608001; clear HO_608002; clear HO_608003; clear HO622; clear HO625; clear HO628; clear BK555; clear BK579; clear BK580; clear BK607; clear BK608; clear BK616; clear BK630; clear HB; have HO_556001 := n0_; have HO_556002 := n1_; have HO_556003 := n2_; have HO_580001 := n3_; have HO_580002 := n4_; have HO_580003 := n5_; have HO_581001 := n6_; have HO_581002 := n7_; have HO_581003 := n8_; have HO_608001 := n9_; have HO_608002 := n10_; have HO_608003 := n11_; have HO622 := n12_; have HO625 := n13_; have HO628 := n14_; have BK555 := n15_; have BK579 := n16_; have BK580 := n17_; have BK607 := n18_; have BK608 := n19_; have BK616 := n20_; have BK630 := n21_; have HB := n22_; clear n0_ n1_ n2_ n3_ n4_ n5_ n6_ n7_ n8_ n9_ n10_ n11_ n12_ n13_ n14_ n15_ n16_ n17_ n18_ n19_ n20_ n21_ n22_; obtain ⟨hcz137_0, hcz137_1, hcz137_2, hcz137_3, hfz137_0, hfz137_1, hfz137_2, hfz137_3⟩ := sd4 BK580.out) | ((with_reducible refine gate_callee (f := 32) rfl ?_); refine goesL_ (some 136) rfl rfl Try.func32 sqk rfl #[.agg #[.int .i64 t569, .slice Ao38 t570.length co38, .slice Ao39 t573.length co39, .slice Ao40 t576.length co40]] rfl sqm ?_; (with_reducible refine (impl_IsAllowed.calls kj65 t569 (fun k_ => some k_ = (.slice Ao38 t570.length co38 : Value).ownBlock) _ _ t570 (fun k_ => some k_ = (.slice Ao39 t573.length co39 : Value).ownBlock) _ _ t573 (fun k_ => some k_ = (.slice Ao40 t576.length co40 : Value).ownBlock) _ _ t576 true _ ?side1 ?side2 ?side3 A110.out).mono ?_); (case side1 => exact Kd.R_V (Kd.R_tight rfl (Kd.R_types (Kd.R_types (Kd.R_types (Kd.R_types (Kd.R_types (Kd.R_types (Kd.R_types (HO_581001.out) BK555.out (by decide)) BK579.out (by decide)) BK580.out (by decide)) BK607.out (by decide)) BK608.out (by decide)) BK616.out (by decide)) BK630.out (by decide)))); (case side2 => exact Kd.R_V (Kd.R_tight rfl (Kd.R_types (Kd.R_types (Kd.R_types (Kd.R_types (Kd.R_types (Kd.R_types (Kd.R_types (HO_581002.out) BK555.out (by decide)) BK579.out (by decide)) BK580.out (by decide)) BK607.out (by decide)) BK608.out (by decide)) BK616.out (by decide)) BK630.out (by decide)))); (case side3 => exact Kd.R_V (Kd.R_tight rfl (Kd.R_types (Kd.R_types (Kd.R_types (Kd.R_types (Kd.R_types (Kd.R_types (Kd.R_types (HO_581003.out) BK555.out (by decide)) BK579.out (by decide)) BK580.out (by decide)) BK607.out (by decide)) BK608.out (by decide)) BK616.out (by decide)) BK630.out (by decide)))); rintro e w138 ⟨rfl, hb⟩; refine ⟨_, rfl, ?_⟩; replace HO_556001 := Aside0.mk (Kd.R_below (sqq HO_556001.out) hb); replace HO_556002 := Aside0.mk (Kd.R_below (sqq HO_556002.out) hb); replace HO_556003 := Aside0.mk (Kd.R_below (sqq HO_556003.out) hb); replace HO_580001 := Aside0.mk (Kd.R_below (sqq HO_580001.out) hb); replace HO_580002 := Aside0.mk (Kd.R_below (sqq HO_580002.out) hb); replace HO_580003 := Aside0.mk (Kd.R_below (sqq HO_580003.out) hb); replace HO_581001 := Aside0.mk (Kd.R_below (sqq HO_581001.out) hb); replace HO_581002 := Aside0.mk (Kd.R_below (sqq HO_581002.out) hb); replace HO_581003 := Aside0.mk (Kd.R_below (sqq HO_581003.out) hb); replace HO_608001 := Aside0.mk (Kd.R_below (sqq HO_608001.out) hb); replace HO_608002 := Aside0.mk (Kd.R_below (sqq HO_608002.out) hb); replace HO_608003 := Aside0.mk (Kd.R_below (sqq HO_608003.out) hb); replace HO622 := Aside0.mk (Kd.R_below (sqq HO622.out) hb); replace HO625 := Aside0.mk (Kd.R_below (sqq HO625.out) hb); replace HO628 := Aside0.mk (Kd.R_below (sqq HO628.out) hb); replace BK555 := Aside0.mk (blk_below (bo BK555) hb); replace BK579 := Aside0.mk (blk_below (bo BK579) hb); replace BK580 := Aside0.mk (blk_below (bo BK580) hb); replace BK607 := Aside0.mk (blk_below (bo BK607) hb); replace BK608 := Aside0.mk (blk_below (bo BK608) hb); replace BK616 := Aside0.mk (blk_below (bo BK616) hb); replace BK630 := Aside0.mk (blk_below (bo BK630) hb); replace HB := Aside0.mk (below_step sqh hb); (try clear hb); obtain ⟨hcz139_0, hcz139_1, hcz139_2, hcz139_3, hfz139_0, hfz139_1, hfz139_2, hfz139_3⟩ := sd4 BK580.out; obtain ⟨hcz140_0, hcz140_1, hcz140_2, hcz140_3, hfz140_0, hfz140_1, hfz140_2, hfz140_3⟩ := sd4 BK579.out; obtain ⟨hcz141_0, hcz141_1, hcz141_2, hcz141_3, hfz141_0, hfz141_1, hfz141_2, hfz141_3⟩ := sd4 BK630.out))
               go_ret
               exact ⟨sqe, sqh⟩
              ·rw [if_neg c112] at H
               have c112b0 : (t629 == (decide (t569 > t559))) = false := by simpa using c112
               (try (have c112b1 : decide (t629 = (decide (t569 > t559))) = false := by simpa using c112))
               (try (have c112b2 : (t629 == (decide (t569 > t559))) = false := by simpa using c112))
               (try (have c112b3 : ¬ (t629 = (decide (t569 > t559))) := by simpa using c112))
               clear c112
               exact absurd ((Option.some.inj H).trans hr_.out) (by decide)
             ·replace c111 := Bool.eq_false_iff.mpr c111
              subst c111
              replace H := iF H
              by_cases c142 : (t629 == false) = true
              ·rw [if_pos c142] at H
               have c142b0 : (t629 == false) = true := c142
               (try (have c142b1 : decide (t629 = false) = true := by simpa using c142))
               (try (have c142b2 : (t629 == false) = true := by simpa using c142))
               clear c142
               obtain rfl := Option.some.inj H
               have hnb143 := NB579_555.out
               have hnc143 := NB555_579.out
               have hnb144 := NB579_580.out
               have hnc144 := NB580_579.out
               have hnb145 := NB579_607.out
               have hnc145 := NB607_579.out
               have hnb146 := NB579_608.out
               have hnc146 := NB608_579.out
               have hnb147 := NB579_616.out
               have hnc147 := NB616_579.out
               obtain ⟨hcz148_0, hcz148_1, hcz148_2, hcz148_3, hfz148_0, hfz148_1, hfz148_2, hfz148_3⟩ := sd4 BK579.out
               have hnb149 := NB580_555.out
               have hnc149 := NB555_580.out
               have hnb150 := NB580_607.out
               have hnc150 := NB607_580.out
               have hnb151 := NB580_608.out
               have hnc151 := NB608_580.out
               have hnb152 := NB580_616.out
               have hnc152 := NB616_580.out
               obtain ⟨hcz153_0, hcz153_1, hcz153_2, hcz153_3, hfz153_0, hfz153_1, hfz153_2, hfz153_3⟩ := sd4 BK580.out
               go_wp2_with (first | ((with_reducible refine gate_callee (f := 40) rfl ?_); refine goesL_ (some 131) rfl rfl Try.func40 sqk rfl #[.agg #[.int .i64 t559, .slice Ao33 t560.length co33, .slice Ao34 t563.length co34, .slice Ao35 t566.length co35], .agg #[.int .i64 t569, .slice Ao38 t570.length co38, .slice Ao39 t573.length co39, .slice Ao40 t576.length co40]] rfl sqm ?_; (with_reducible refine (impl_ReplaceAllowed.calls kj65 t559 _ _ t560 _ _ t563 _ _ t566 t569 _ _ t570 _ _ t573 _ _ t576 t619 t620 t623 t626 t629 _ ?side1 ?side2 ?side3 ?side4 ?side5 ?side6 ?side7 ?side8 ?side9 ?side10 ?side11 ?side12 A109.out).mono ?_); (case side1 => repeat (first | exact (Kd.R_reads' HO_580001.out).2.2 | (with_reducible refine Kd.C_alloc ?_ _) | (with_reducible refine Kd.C_drewN ?_ _) | (with_reducible refine Kd.C_drew ?_))); (case side2 => exact (Kd.R_reads' HO_580001.out).2.1); (case side3 => repeat (first | exact (Kd.R_reads' HO_580002.out).2.2 | (with_reducible refine Kd.C_alloc ?_ _) | (with_reducible refine Kd.C_drewN ?_ _) | (with_reducible refine Kd.C_drew ?_))); (case side4 => exact (Kd.R_reads' HO_580002.out).2.1); (case side5 => repeat (first | exact (Kd.R_reads' HO_580003.out).2.2 | (with_reducible refine Kd.C_alloc ?_ _) | (with_reducible refine Kd.C_drewN ?_ _) | (with_reducible refine Kd.C_drew ?_))); (case side6 => exact (Kd.R_reads' HO_580003.out).2.1); (case side7 => repeat (first | exact (Kd.R_reads' HO_581001.out).2.2 | (with_reducible refine Kd.C_alloc ?_ _) | (with_reducible refine Kd.C_drewN ?_ _) | (with_reducible refine Kd.C_drew ?_))); (case side8 => exact (Kd.R_reads' HO_581001.out).2.1); (case side9 => repeat (first | exact (Kd.R_reads' HO_581002.out).2.2 | (with_reducible refine Kd.C_alloc ?_ _) | (with_reducible refine Kd.C_drewN ?_ _) | (with_reducible refine Kd.C_drew ?_))); (case side10 => exact (Kd.R_reads' HO_581002.out).2.1); (case side11 => repeat (first | exact (Kd.R_reads' HO_581003.out).2.2 | (with_reducible refine Kd.C_alloc ?_ _) | (with_reducible refine Kd.C_drewN ?_ _) | (with_reducible refine Kd.C_drew ?_))); (case side12 => exact (Kd.R_reads' HO_581003.out).2.1); rintro e w154 ⟨v621, v624, v627, rfl, ho0, ho1, ho2, hb⟩; refine ⟨_, rfl, ?_⟩; replace HO_556001 := Aside0.mk (Kd.R_below (sqq HO_556001.out) hb); replace HO_556002 := Aside0.mk (Kd.R_below (sqq HO_556002.out) hb); replace HO_556003 := Aside0.mk (Kd.R_below (sqq HO_556003.out) hb); replace HO_580001 := Aside0.mk (Kd.R_below (sqq HO_580001.out) hb); replace HO_580002 := Aside0.mk (Kd.R_below (sqq HO_580002.out) hb); replace HO_580003 := Aside0.mk (Kd.R_below (sqq HO_580003.out) hb); replace HO_581001 := Aside0.mk (Kd.R_below (sqq HO_581001.out) hb); replace HO_581002 := Aside0.mk (Kd.R_below (sqq HO_581002.out) hb); replace HO_581003 := Aside0.mk (Kd.R_below (sqq HO_581003.out) hb); replace HO_608001 := Aside0.mk (Kd.R_below (sqq HO_608001.out) hb); replace HO_608002 := Aside0.mk (Kd.R_below (sqq HO_608002.out) hb); replace HO_608003 := Aside0.mk (Kd.R_below (sqq HO_608003.out) hb); have HO622 := Aside0.mk (Kd.R_mono (ok' := fun _ => True) (Kd.R_lower ho0 (below_size sqh)) (fun _ _ => trivial)); have HO625 := Aside0.mk (Kd.R_mono (ok' := fun _ => True) (Kd.R_lower ho1 (below_size sqh)) (fun _ _ => trivial)); have HO628 := Aside0.mk (Kd.R_mono (ok' := fun _ => True) (Kd.R_lower ho2 (below_size sqh)) (fun _ _ => trivial)); replace BK555 := Aside0.mk (blk_below (bo BK555) hb); replace BK579 := Aside0.mk (blk_below (bo BK579) hb); replace BK580 := Aside0.mk (blk_below (bo BK580) hb); replace BK607 := Aside0.mk (blk_below (bo BK607) hb); replace BK608 := Aside0.mk (blk_below (bo BK608) hb); replace BK616 := Aside0.mk (blk_below (bo BK616) hb); replace HB := Aside0.mk (below_step sqh hb); (try clear hb); (try clear ho0); (try clear ho1); (try clear ho2)) | ((with_reducible refine gate_dst (N := 20) rfl ?_); refine bx (N := 20) (cs := #[.int .i64 0, .slice none 0 0, .slice none 0 0, .slice none 0 0]) (t := 33) ?_; intro gb630 hg w155 hbox hb; replace HO_556001 := Aside0.mk (Kd.R_below (sqq HO_556001.out) hb); replace HO_556002 := Aside0.mk (Kd.R_below (sqq HO_556002.out) hb); replace HO_556003 := Aside0.mk (Kd.R_below (sqq HO_556003.out) hb); replace HO_580001 := Aside0.mk (Kd.R_below (sqq HO_580001.out) hb); replace HO_580002 := Aside0.mk (Kd.R_below (sqq HO_580002.out) hb); replace HO_580003 := Aside0.mk (Kd.R_below (sqq HO_580003.out) hb); replace HO_581001 := Aside0.mk (Kd.R_below (sqq HO_581001.out) hb); replace HO_581002 := Aside0.mk (Kd.R_below (sqq HO_581002.out) hb); replace HO_581003 := Aside0.mk (Kd.R_below (sqq HO_581003.out) hb); replace HO_608001 := Aside0.mk (Kd.R_below (sqq HO_608001.out) hb); replace HO_608002 := Aside0.mk (Kd.R_below (sqq HO_608002.out) hb); replace HO_608003 := Aside0.mk (Kd.R_below (sqq HO_608003.out) hb); replace HO622 := Aside0.mk (Kd.R_below (sqq HO622.out) hb); replace HO625 := Aside0.mk (Kd.R_below (sqq HO625.out) hb); replace HO628 := Aside0.mk (Kd.R_below (sqq HO628.out) hb); have BK630 := Aside0.mk (hbox); have GW630 := Aside0.mk ((z13_0 : w.heap.size ≤ gb630)); have GE630 := Aside0.mk ((z13_0 : w.heap.size ≤ gb630)); replace HB := Aside0.mk (below_step sqh hb); have NB555_630 := Aside0.mk ((z13_1 : gb555 ≠ gb630)); have NB630_555 := Aside0.mk ((z13_2 : gb630 ≠ gb555)); replace BK555 := Aside0.mk (blk_below (bo BK555) hb); have NB579_630 := Aside0.mk ((z13_3 : gb579 ≠ gb630)); have NB630_579 := Aside0.mk ((z13_4 : gb630 ≠ gb579)); replace BK579 := Aside0.mk (blk_below (bo BK579) hb); have NB580_630 := Aside0.mk ((by rw [hg]; exact Nat.ne_of_lt (blk_lt (bo BK580)) : gb580 ≠ gb630)); have NB630_580 := Aside0.mk ((by rw [hg]; exact Nat.ne_of_gt (blk_lt (bo BK580)) : gb630 ≠ gb580)); replace BK580 := Aside0.mk (blk_below (bo BK580) hb); have NB607_630 := Aside0.mk ((by rw [hg]; exact Nat.ne_of_lt (blk_lt (bo BK607)) : gb607 ≠ gb630)); have NB630_607 := Aside0.mk ((by rw [hg]; exact Nat.ne_of_gt (blk_lt (bo BK607)) : gb630 ≠ gb607)); replace BK607 := Aside0.mk (blk_below (bo BK607) hb); have NB608_630 := Aside0.mk ((by rw [hg]; exact Nat.ne_of_lt (blk_lt (bo BK608)) : gb608 ≠ gb630)); have NB630_608 := Aside0.mk ((by rw [hg]; exact Nat.ne_of_gt (blk_lt (bo BK608)) : gb630 ≠ gb608)); replace BK608 := Aside0.mk (blk_below (bo BK608) hb); have NB616_630 := Aside0.mk ((by rw [hg]; exact Nat.ne_of_lt (blk_lt (bo BK616)) : gb616 ≠ gb630)); have NB630_616 := Aside0.mk ((by rw [hg]; exact Nat.ne_of_gt (blk_lt (bo BK616)) : gb630 ≠ gb616)); replace BK616 := Aside0.mk (blk_below (bo BK616) hb); clear hb hbox hg; have hnb156 := NB630_555.out; have hnc156 := NB555_630.out; have hnb157 := NB630_579.out; have hnc157 := NB579_630.out; have hnb158 := NB630_580.out; have hnc158 := NB580_630.out; have hnb159 := NB630_607.out; have hnc159 := NB607_630.out; have hnb160 := NB630_608.out; have hnc160 := NB608_630.out; have hnb161 := NB630_616.out; have hnc161 := NB616_630.out; obtain ⟨hcz162_0, hcz162_1, hcz162_2, hcz162_3, hfz162_0, hfz162_1, hfz162_2, hfz162_3⟩ := sd4 BK630.out; obtain ⟨Ao163, co163, eo163⟩ := Kd.R_slice HO622.out; subst eo163; obtain ⟨Ao164, co164, eo164⟩ := Kd.R_slice HO625.out; subst eo164; obtain ⟨Ao165, co165, eo165⟩ := Kd.R_slice HO628.out; subst eo165) | ((with_reducible refine gate_store (t := 33) (p := 20) rfl ?_); refine store_event (t := 33) (p := 20) (v := ?vo_w166) (w1 := ((((w155.setCell ⟨gb630, 0, none⟩ (.int .i64 t619)).setCell ⟨gb630, 1, none⟩ (.slice Ao163 t620.length co163)).setCell ⟨gb630, 2, none⟩ (.slice Ao164 t623.length co164)).setCell ⟨gb630, 3, none⟩ (.slice Ao165 t626.length co165))) ?hg ?ho ?hn ?hr ?_; (case ho => rfl); (case hg => rfl); (case hn => rfl); (case hr => first | (go_simp; done) | (go_simp; rfl)); intro w166 hw; have n0_ : Aside0 (Kd.R (Kd.int .i64) 3 w166 w.heap.size (fun _ => True) (.slice Ao10 t543.length co10) t543) := ⟨(by rw [hw]; exact (sqR1 HO_556001 BK630))⟩; have n1_ : Aside0 (Kd.R (Kd.int .i64) 3 w166 w.heap.size (fun _ => True) (.slice Ao11 t546.length co11) t546) := ⟨(by rw [hw]; exact (sqR1 HO_556002 BK630))⟩; have n2_ : Aside0 (Kd.R (Kd.int .i64) 3 w166 w.heap.size (fun _ => True) (.slice Ao12 t549.length co12) t549) := ⟨(by rw [hw]; exact (sqR1 HO_556003 BK630))⟩; have n3_ : Aside0 (Kd.R (Kd.int .i64) 3 w166 w.heap.size (fun _ => True) (.slice Ao33 t560.length co33) t560) := ⟨(by rw [hw]; exact (sqR1 HO_580001 BK630))⟩; have n4_ : Aside0 (Kd.R (Kd.int .i64) 3 w166 w.heap.size (fun _ => True) (.slice Ao34 t563.length co34) t563) := ⟨(by rw [hw]; exact (sqR1 HO_580002 BK630))⟩; have n5_ : Aside0 (Kd.R (Kd.int .i64) 3 w166 w.heap.size (fun _ => True) (.slice Ao35 t566.length co35) t566) := ⟨(by rw [hw]; exact (sqR1 HO_580003 BK630))⟩; have n6_ : Aside0 (Kd.R (Kd.int .i64) 3 w166 w.heap.size (fun _ => True) (.slice Ao38 t570.length co38) t570) := ⟨(by rw [hw]; exact (sqR1 HO_581001 BK630))⟩; have n7_ : Aside0 (Kd.R (Kd.int .i64) 3 w166 w.heap.size (fun _ => True) (.slice Ao39 t573.length co39) t573) := ⟨(by rw [hw]; exact (sqR1 HO_581002 BK630))⟩; have n8_ : Aside0 (Kd.R (Kd.int .i64) 3 w166 w.heap.size (fun _ => True) (.slice Ao40 t576.length co40) t576) := ⟨(by rw [hw]; exact (sqR1 HO_581003 BK630))⟩; have n9_ : Aside0 (Kd.R (Kd.int .i64) 3 w166 w.heap.size (fun _ => True) (.slice Ao75 t586.length co75) t586) := ⟨(by rw [hw]; exact (sqR1 HO_608001 BK630))⟩; have n10_ : Aside0 (Kd.R (Kd.int .i64) 3 w166 w.heap.size (fun _ => True) (.slice Ao76 t589.length co76) t589) := ⟨(by rw [hw]; exact (sqR1 HO_608002 BK630))⟩; have n11_ : Aside0 (Kd.R (Kd.int .i64) 3 w166 w.heap.size (fun _ => True) (.slice Ao77 t592.length co77) t592) := ⟨(by rw [hw]; exact (sqR1 HO_608003 BK630))⟩; have n12_ : Aside0 (Kd.R (Kd.int .i64) 3 w166 w.heap.size (fun _ => True) (.slice Ao163 t620.length co163) t620) := ⟨(by rw [hw]; exact (sqR1 HO622 BK630))⟩; have n13_ : Aside0 (Kd.R (Kd.int .i64) 3 w166 w.heap.size (fun _ => True) (.slice Ao164 t623.length co164) t623) := ⟨(by rw [hw]; exact (sqR1 HO625 BK630))⟩; have n14_ : Aside0 (Kd.R (Kd.int .i64) 3 w166 w.heap.size (fun _ => True) (.slice Ao165 t626.length co165) t626) := ⟨(by rw [hw]; exact (sqR1 HO628 BK630))⟩; have n15_ : Aside0 (w166.heap[gb555]? = some (.cells #[.int .i64 t542, .slice Ao10 t543.length co10, .slice Ao11 t546.length co11, .slice Ao12 t549.length co12] 33 (0, 0))) := ⟨(by rw [hw]; exact (bp BK555))⟩; have n16_ : Aside0 (w166.heap[gb579]? = some (.cells #[.int .i64 t559, .slice Ao33 t560.length co33, .slice Ao34 t563.length co34, .slice Ao35 t566.length co35] 33 (0, 0))) := ⟨(by rw [hw]; exact (bp BK579))⟩; have n17_ : Aside0 (w166.heap[gb580]? = some (.cells #[.int .i64 t569, .slice Ao38 t570.length co38, .slice Ao39 t573.length co39, .slice Ao40 t576.length co40] 33 (0, 0))) := ⟨(by rw [hw]; exact (bp BK580))⟩; have n18_ : Aside0 (w166.heap[gb607]? = some (.cells #[.int .i64 t585, .slice Ao75 t586.length co75, .slice Ao76 t589.length co76, .slice Ao77 t592.length co77] 33 (0, 0))) := ⟨(by rw [hw]; exact (bp BK607))⟩; have n19_ : Aside0 (w166.heap[gb608]? = some (.cells #[.int .i64 t596, .int .i64 t597, .int .i64 t598, .int .i64 t599, .int .i64 t600] 45 (0, 0))) := ⟨(by rw [hw]; exact (bp BK608))⟩; have n20_ : Aside0 (w166.heap[gb616]? = some (.cells #[.int .i64 t609, .int .i64 t610, .int .i64 t611, .int .i64 t612, .int .i64 t613, .int .i64 t614] 83 (0, 0))) := ⟨(by rw [hw]; exact (bp BK616))⟩; have n21_ : Aside0 (w166.heap[gb630]? = some (.cells #[.int .i64 t619, .slice Ao163 t620.length co163, .slice Ao164 t623.length co164, .slice Ao165 t626.length co165] 33 (0, 0))) := ⟨(by rw [hw]; exact (bp BK630))⟩; have n22_ : Aside0 (Below w.heap.size w w166) := ⟨(by rw [hw]; exact sqh)⟩; clear hw; clear HO_556001; clear HO_556002; clear HO_556003; clear HO_580001; clear HO_580002; clear HO_580003; clear HO_581001; clear HO_581002; clear HO_581003; clear HO_608001; clear HO_608002; clear HO_608003; clear HO622; clear HO625; clear HO628; clear BK555; clear BK579; clear BK580; clear BK607; clear BK608; clear BK616; clear BK630; clear HB; have HO_556001 := n0_; have HO_556002 := n1_; have HO_556003 := n2_; have HO_580001 := n3_; have HO_580002 := n4_; have HO_580003 := n5_; have HO_581001 := n6_; have HO_581002 := n7_; have HO_581003 := n8_; have HO_608001 := n9_; have HO_608002 := n10_; have HO_608003 := n11_; have HO622 := n12_; have HO625 := n13_; have HO628 := n14_; have BK555 := n15_; have BK579 := n16_; have BK580 := n17_; have BK607 := n18_; have BK608 := n19_; have BK616 := n20_; have BK630 := n21_; have HB := n22_; clear n0_ n1_ n2_ n3_ n4_ n5_ n6_ n7_ n8_ n9_ n10_ n11_ n12_ n13_ n14_ n15_ n16_ n17_ n18_ n19_ n20_ n21_ n22_; obtain ⟨hcz167_0, hcz167_1, hcz167_2, hcz167_3, hfz167_0, hfz167_1, hfz167_2, hfz167_3⟩ := sd4 BK580.out) | ((with_reducible refine gate_callee (f := 32) rfl ?_); refine goesL_ (some 136) rfl rfl Try.func32 sqk rfl #[.agg #[.int .i64 t569, .slice Ao38 t570.length co38, .slice Ao39 t573.length co39, .slice Ao40 t576.length co40]] rfl sqm ?_; (with_reducible refine (impl_IsAllowed.calls kj65 t569 (fun k_ => some k_ = (.slice Ao38 t570.length co38 : Value).ownBlock) _ _ t570 (fun k_ => some k_ = (.slice Ao39 t573.length co39 : Value).ownBlock) _ _ t573 (fun k_ => some k_ = (.slice Ao40 t576.length co40 : Value).ownBlock) _ _ t576 false _ ?side1 ?side2 ?side3 A110.out).mono ?_); (case side1 => exact Kd.R_V (Kd.R_tight rfl (Kd.R_types (Kd.R_types (Kd.R_types (Kd.R_types (Kd.R_types (Kd.R_types (Kd.R_types (HO_581001.out) BK555.out (by decide)) BK579.out (by decide)) BK580.out (by decide)) BK607.out (by decide)) BK608.out (by decide)) BK616.out (by decide)) BK630.out (by decide)))); (case side2 => exact Kd.R_V (Kd.R_tight rfl (Kd.R_types (Kd.R_types (Kd.R_types (Kd.R_types (Kd.R_types (Kd.R_types (Kd.R_types (HO_581002.out) BK555.out (by decide)) BK579.out (by decide)) BK580.out (by decide)) BK607.out (by decide)) BK608.out (by decide)) BK616.out (by decide)) BK630.out (by decide)))); (case side3 => exact Kd.R_V (Kd.R_tight rfl (Kd.R_types (Kd.R_types (Kd.R_types (Kd.R_types (Kd.R_types (Kd.R_types (Kd.R_types (HO_581003.out) BK555.out (by decide)) BK579.out (by decide)) BK580.out (by decide)) BK607.out (by decide)) BK608.out (by decide)) BK616.out (by decide)) BK630.out (by decide)))); rintro e w168 ⟨rfl, hb⟩; refine ⟨_, rfl, ?_⟩; replace HO_556001 := Aside0.mk (Kd.R_below (sqq HO_556001.out) hb); replace HO_556002 := Aside0.mk (Kd.R_below (sqq HO_556002.out) hb); replace HO_556003 := Aside0.mk (Kd.R_below (sqq HO_556003.out) hb); replace HO_580001 := Aside0.mk (Kd.R_below (sqq HO_580001.out) hb); replace HO_580002 := Aside0.mk (Kd.R_below (sqq HO_580002.out) hb); replace HO_580003 := Aside0.mk (Kd.R_below (sqq HO_580003.out) hb); replace HO_581001 := Aside0.mk (Kd.R_below (sqq HO_581001.out) hb); replace HO_581002 := Aside0.mk (Kd.R_below (sqq HO_581002.out) hb); replace HO_581003 := Aside0.mk (Kd.R_below (sqq HO_581003.out) hb); replace HO_608001 := Aside0.mk (Kd.R_below (sqq HO_608001.out) hb); replace HO_608002 := Aside0.mk (Kd.R_below (sqq HO_608002.out) hb); replace HO_608003 := Aside0.mk (Kd.R_below (sqq HO_608003.out) hb); replace HO622 := Aside0.mk (Kd.R_below (sqq HO622.out) hb); replace HO625 := Aside0.mk (Kd.R_below (sqq HO625.out) hb); replace HO628 := Aside0.mk (Kd.R_below (sqq HO628.out) hb); replace BK555 := Aside0.mk (blk_below (bo BK555) hb); replace BK579 := Aside0.mk (blk_below (bo BK579) hb); replace BK580 := Aside0.mk (blk_below (bo BK580) hb); replace BK607 := Aside0.mk (blk_below (bo BK607) hb); replace BK608 := Aside0.mk (blk_below (bo BK608) hb); replace BK616 := Aside0.mk (blk_below (bo BK616) hb); replace BK630 := Aside0.mk (blk_below (bo BK630) hb); replace HB := Aside0.mk (below_step sqh hb); (try clear hb); obtain ⟨hcz169_0, hcz169_1, hcz169_2, hcz169_3, hfz169_0, hfz169_1, hfz169_2, hfz169_3⟩ := sd4 BK630.out; obtain ⟨hcz170_0, hcz170_1, hcz170_2, hcz170_3, hfz170_0, hfz170_1, hfz170_2, hfz170_3⟩ := sd4 BK579.out))
               go_ret
               exact ⟨sqe, sqh⟩
              ·rw [if_neg c142] at H
               have c142b0 : (t629 == false) = false := by simpa using c142
               (try (have c142b1 : decide (t629 = false) = false := by simpa using c142))
               (try (have c142b2 : (t629 == false) = false := by simpa using c142))
               (try (have c142b3 : ¬ (t629 = false) := by simpa using c142))
               clear c142
               exact absurd ((Option.some.inj H).trans hr_.out) (by decide)

/-- THE ONE PURE STATEMENT of laws_FnAppraisal. -/
def laws_FnAppraisal.Pure : Prop := ∀ (l0 : List Int), ((l0.length ≤ maxLen ∧ ∀ y2 ∈ l0, (Lit.int .u8 y2).wf = true)) → ∃ k, laws_FnAppraisal.f k l0 = some true

end Go.Proofs.Ytlmhemcpkmjkiaa.XFnAppraisal
