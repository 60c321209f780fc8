/- Written by this session's own program (wip/xprint, which runs over the kit's print): what the functions that the law reaches come to, each proved; and the law's row. Conditions: none. -/
import Derived.Test.YtabpgiebhgkfhaaUFnExactTakeStatedSq
import Derived.Test.YtabpgiebhgkfhaaUFnExactTakeStatedx0
import Derived.Test.YtabpgiebhgkfhaaUFnExactTakeStatedx2
import Derived.Test.YtabpgiebhgkfhaaUFnExactTakeStatedx9
import Derived.Test.YtabpgiebhgkfhaaUFnExactTakeStatedx18
import Derived.Test.YtabpgiebhgkfhaaUFnExactTakeStatedx19
import Derived.Test.YtabpgiebhgkfhaaUFnExactTakeStatedx20
import Derived.Test.YtabpgiebhgkfhaaUFnExactTakeStatedTree
namespace Go.Proofs.Ytabpgiebhgkfhaa.XFnExactTakeStated
open Go.RowKit Go.Proofs.YtabpgiebhgkfhaaW.PrintWords Go.Proofs.YtabpgiebhgkfhaaW.PrintLast Go.Proofs.YtabpgiebhgkfhaaW.PrintMore Go.Proofs.YtabpgiebhgkfhaaSq Go.Proofs.YtabpgiebhgkfhaaTree
attribute [local go_sem] max2_int min2_int max_two min_two max_three min_three max_four min_four   -- for this text's walks alone
set_option linter.unusedVariables false
set_option linter.unusedSimpArgs false

/-! ### laws_markStatedS: function 28 -/
theorem laws_markStatedS.set_at {α : Type} (a b : List α) (x y : α) : (a ++ x :: b).set a.length y = a ++ y :: b := by
  rw [List.set_append_right _ _ (Nat.le_refl _), Nat.sub_self, List.set_cons_zero]
theorem laws_markStatedS.get_at {α : Type} (a b : List α) (x z : α) : (a ++ x :: b).getD a.length z = x := by
  rw [List.getD_eq_getElem?_getD, List.getElem?_append_right (Nat.le_refl _), Nat.sub_self]
  rfl
/-- One number is written: its cell, and what stands behind it. -/
theorem laws_markStatedS.put0 {W : World} {base : Nat} {ok : Nat → Prop} {g n c : Nat} {a b : List S76} {x : S76} (HS : Kd.R k76 76 W base ok (.slice (some ⟨g, 0, none⟩) n c) (a ++ x :: b)) (i : Int) (hi : i = (a.length : Int)) :
    W.cell? ⟨g, i.toNat * 7, none⟩ = some (.int .i64 x.f0.f0) ∧ W.frozen? ⟨g, i.toNat * 7, none⟩ = false ∧ ∀ v, Kd.R k76 76 (W.setCell ⟨g, i.toNat * 7, none⟩ (.int .i64 v)) base ok (.slice (some ⟨g, 0, none⟩) n c) (a ++ ⟨⟨v, x.f0.f1, x.f0.f2, x.f0.f3, x.f0.f4, x.f0.f5⟩, x.f1⟩ :: b) := by
  subst hi
  have hn := (Kd.R_reads' HS).1
  have hlt : (a.length : Int) < (n : Int) := by rw [hn, List.length_append, List.length_cons]; omega
  obtain ⟨ce, hcl, hM, hcc, hfr⟩ := Kd.R_elem HS z76 (a.length : Int) (by omega) hlt
  rw [Int.toNat_natCast, laws_markStatedS.get_at] at hM
  obtain rfl := k76_openM hM
  refine ⟨hcc 0 _ rfl, hfr 0, fun v => ?_⟩
  have := (Kd.R_seg HS (a.length : Int) (by omega) hlt hcl hcc (seg := [.int .i64 v]) (j := 0) (show 1 ≤ 7 from by decide) (x' := ⟨⟨v, x.f0.f1, x.f0.f2, x.f0.f3, x.f0.f4, x.f0.f5⟩, x.f1⟩) (k76_mkM W base (fun k => ok k ∧ k ≠ g) ⟨⟨v, x.f0.f1, x.f0.f2, x.f0.f3, x.f0.f4, x.f0.f5⟩, x.f1⟩) (fun _ hk => hk)).1
  rw [Int.toNat_natCast, laws_markStatedS.set_at] at this
  exact this
/-- One number is written: its cell, and what stands behind it. -/
theorem laws_markStatedS.put1 {W : World} {base : Nat} {ok : Nat → Prop} {g n c : Nat} {a b : List S76} {x : S76} (HS : Kd.R k76 76 W base ok (.slice (some ⟨g, 0, none⟩) n c) (a ++ x :: b)) (i : Int) (hi : i = (a.length : Int)) :
    W.cell? ⟨g, i.toNat * 7 + 1, none⟩ = some (.int .i64 x.f0.f1) ∧ W.frozen? ⟨g, i.toNat * 7 + 1, none⟩ = false ∧ ∀ v, Kd.R k76 76 (W.setCell ⟨g, i.toNat * 7 + 1, none⟩ (.int .i64 v)) base ok (.slice (some ⟨g, 0, none⟩) n c) (a ++ ⟨⟨x.f0.f0, v, x.f0.f2, x.f0.f3, x.f0.f4, x.f0.f5⟩, x.f1⟩ :: b) := by
  subst hi
  have hn := (Kd.R_reads' HS).1
  have hlt : (a.length : Int) < (n : Int) := by rw [hn, List.length_append, List.length_cons]; omega
  obtain ⟨ce, hcl, hM, hcc, hfr⟩ := Kd.R_elem HS z76 (a.length : Int) (by omega) hlt
  rw [Int.toNat_natCast, laws_markStatedS.get_at] at hM
  obtain rfl := k76_openM hM
  refine ⟨hcc 1 _ rfl, hfr 1, fun v => ?_⟩
  have := (Kd.R_seg HS (a.length : Int) (by omega) hlt hcl hcc (seg := [.int .i64 v]) (j := 1) (show 2 ≤ 7 from by decide) (x' := ⟨⟨x.f0.f0, v, x.f0.f2, x.f0.f3, x.f0.f4, x.f0.f5⟩, x.f1⟩) (k76_mkM W base (fun k => ok k ∧ k ≠ g) ⟨⟨x.f0.f0, v, x.f0.f2, x.f0.f3, x.f0.f4, x.f0.f5⟩, x.f1⟩) (fun _ hk => hk)).1
  rw [Int.toNat_natCast, laws_markStatedS.set_at] at this
  exact this
/-- One number is written: its cell, and what stands behind it. -/
theorem laws_markStatedS.put2 {W : World} {base : Nat} {ok : Nat → Prop} {g n c : Nat} {a b : List S76} {x : S76} (HS : Kd.R k76 76 W base ok (.slice (some ⟨g, 0, none⟩) n c) (a ++ x :: b)) (i : Int) (hi : i = (a.length : Int)) :
    W.cell? ⟨g, i.toNat * 7 + 2, none⟩ = some (.int .i64 x.f0.f2) ∧ W.frozen? ⟨g, i.toNat * 7 + 2, none⟩ = false ∧ ∀ v, Kd.R k76 76 (W.setCell ⟨g, i.toNat * 7 + 2, none⟩ (.int .i64 v)) base ok (.slice (some ⟨g, 0, none⟩) n c) (a ++ ⟨⟨x.f0.f0, x.f0.f1, v, x.f0.f3, x.f0.f4, x.f0.f5⟩, x.f1⟩ :: b) := by
  subst hi
  have hn := (Kd.R_reads' HS).1
  have hlt : (a.length : Int) < (n : Int) := by rw [hn, List.length_append, List.length_cons]; omega
  obtain ⟨ce, hcl, hM, hcc, hfr⟩ := Kd.R_elem HS z76 (a.length : Int) (by omega) hlt
  rw [Int.toNat_natCast, laws_markStatedS.get_at] at hM
  obtain rfl := k76_openM hM
  refine ⟨hcc 2 _ rfl, hfr 2, fun v => ?_⟩
  have := (Kd.R_seg HS (a.length : Int) (by omega) hlt hcl hcc (seg := [.int .i64 v]) (j := 2) (show 3 ≤ 7 from by decide) (x' := ⟨⟨x.f0.f0, x.f0.f1, v, x.f0.f3, x.f0.f4, x.f0.f5⟩, x.f1⟩) (k76_mkM W base (fun k => ok k ∧ k ≠ g) ⟨⟨x.f0.f0, x.f0.f1, v, x.f0.f3, x.f0.f4, x.f0.f5⟩, x.f1⟩) (fun _ hk => hk)).1
  rw [Int.toNat_natCast, laws_markStatedS.set_at] at this
  exact this
/-- One number is written: its cell, and what stands behind it. -/
theorem laws_markStatedS.put3 {W : World} {base : Nat} {ok : Nat → Prop} {g n c : Nat} {a b : List S76} {x : S76} (HS : Kd.R k76 76 W base ok (.slice (some ⟨g, 0, none⟩) n c) (a ++ x :: b)) (i : Int) (hi : i = (a.length : Int)) :
    W.cell? ⟨g, i.toNat * 7 + 3, none⟩ = some (.int .i64 x.f0.f3) ∧ W.frozen? ⟨g, i.toNat * 7 + 3, none⟩ = false ∧ ∀ v, Kd.R k76 76 (W.setCell ⟨g, i.toNat * 7 + 3, none⟩ (.int .i64 v)) base ok (.slice (some ⟨g, 0, none⟩) n c) (a ++ ⟨⟨x.f0.f0, x.f0.f1, x.f0.f2, v, x.f0.f4, x.f0.f5⟩, x.f1⟩ :: b) := by
  subst hi
  have hn := (Kd.R_reads' HS).1
  have hlt : (a.length : Int) < (n : Int) := by rw [hn, List.length_append, List.length_cons]; omega
  obtain ⟨ce, hcl, hM, hcc, hfr⟩ := Kd.R_elem HS z76 (a.length : Int) (by omega) hlt
  rw [Int.toNat_natCast, laws_markStatedS.get_at] at hM
  obtain rfl := k76_openM hM
  refine ⟨hcc 3 _ rfl, hfr 3, fun v => ?_⟩
  have := (Kd.R_seg HS (a.length : Int) (by omega) hlt hcl hcc (seg := [.int .i64 v]) (j := 3) (show 4 ≤ 7 from by decide) (x' := ⟨⟨x.f0.f0, x.f0.f1, x.f0.f2, v, x.f0.f4, x.f0.f5⟩, x.f1⟩) (k76_mkM W base (fun k => ok k ∧ k ≠ g) ⟨⟨x.f0.f0, x.f0.f1, x.f0.f2, v, x.f0.f4, x.f0.f5⟩, x.f1⟩) (fun _ hk => hk)).1
  rw [Int.toNat_natCast, laws_markStatedS.set_at] at this
  exact this
/-- One number is written: its cell, and what stands behind it. -/
theorem laws_markStatedS.put4 {W : World} {base : Nat} {ok : Nat → Prop} {g n c : Nat} {a b : List S76} {x : S76} (HS : Kd.R k76 76 W base ok (.slice (some ⟨g, 0, none⟩) n c) (a ++ x :: b)) (i : Int) (hi : i = (a.length : Int)) :
    W.cell? ⟨g, i.toNat * 7 + 4, none⟩ = some (.int .i64 x.f0.f4) ∧ W.frozen? ⟨g, i.toNat * 7 + 4, none⟩ = false ∧ ∀ v, Kd.R k76 76 (W.setCell ⟨g, i.toNat * 7 + 4, none⟩ (.int .i64 v)) base ok (.slice (some ⟨g, 0, none⟩) n c) (a ++ ⟨⟨x.f0.f0, x.f0.f1, x.f0.f2, x.f0.f3, v, x.f0.f5⟩, x.f1⟩ :: b) := by
  subst hi
  have hn := (Kd.R_reads' HS).1
  have hlt : (a.length : Int) < (n : Int) := by rw [hn, List.length_append, List.length_cons]; omega
  obtain ⟨ce, hcl, hM, hcc, hfr⟩ := Kd.R_elem HS z76 (a.length : Int) (by omega) hlt
  rw [Int.toNat_natCast, laws_markStatedS.get_at] at hM
  obtain rfl := k76_openM hM
  refine ⟨hcc 4 _ rfl, hfr 4, fun v => ?_⟩
  have := (Kd.R_seg HS (a.length : Int) (by omega) hlt hcl hcc (seg := [.int .i64 v]) (j := 4) (show 5 ≤ 7 from by decide) (x' := ⟨⟨x.f0.f0, x.f0.f1, x.f0.f2, x.f0.f3, v, x.f0.f5⟩, x.f1⟩) (k76_mkM W base (fun k => ok k ∧ k ≠ g) ⟨⟨x.f0.f0, x.f0.f1, x.f0.f2, x.f0.f3, v, x.f0.f5⟩, x.f1⟩) (fun _ hk => hk)).1
  rw [Int.toNat_natCast, laws_markStatedS.set_at] at this
  exact this
/-- One number is written: its cell, and what stands behind it. -/
theorem laws_markStatedS.put5 {W : World} {base : Nat} {ok : Nat → Prop} {g n c : Nat} {a b : List S76} {x : S76} (HS : Kd.R k76 76 W base ok (.slice (some ⟨g, 0, none⟩) n c) (a ++ x :: b)) (i : Int) (hi : i = (a.length : Int)) :
    W.cell? ⟨g, i.toNat * 7 + 5, none⟩ = some (.int .i64 x.f0.f5) ∧ W.frozen? ⟨g, i.toNat * 7 + 5, none⟩ = false ∧ ∀ v, Kd.R k76 76 (W.setCell ⟨g, i.toNat * 7 + 5, none⟩ (.int .i64 v)) base ok (.slice (some ⟨g, 0, none⟩) n c) (a ++ ⟨⟨x.f0.f0, x.f0.f1, x.f0.f2, x.f0.f3, x.f0.f4, v⟩, x.f1⟩ :: b) := by
  subst hi
  have hn := (Kd.R_reads' HS).1
  have hlt : (a.length : Int) < (n : Int) := by rw [hn, List.length_append, List.length_cons]; omega
  obtain ⟨ce, hcl, hM, hcc, hfr⟩ := Kd.R_elem HS z76 (a.length : Int) (by omega) hlt
  rw [Int.toNat_natCast, laws_markStatedS.get_at] at hM
  obtain rfl := k76_openM hM
  refine ⟨hcc 5 _ rfl, hfr 5, fun v => ?_⟩
  have := (Kd.R_seg HS (a.length : Int) (by omega) hlt hcl hcc (seg := [.int .i64 v]) (j := 5) (show 6 ≤ 7 from by decide) (x' := ⟨⟨x.f0.f0, x.f0.f1, x.f0.f2, x.f0.f3, x.f0.f4, v⟩, x.f1⟩) (k76_mkM W base (fun k => ok k ∧ k ≠ g) ⟨⟨x.f0.f0, x.f0.f1, x.f0.f2, x.f0.f3, x.f0.f4, v⟩, x.f1⟩) (fun _ hk => hk)).1
  rw [Int.toNat_natCast, laws_markStatedS.set_at] at this
  exact this
/-- One number is written: its cell, and what stands behind it. -/
theorem laws_markStatedS.put6 {W : World} {base : Nat} {ok : Nat → Prop} {g n c : Nat} {a b : List S76} {x : S76} (HS : Kd.R k76 76 W base ok (.slice (some ⟨g, 0, none⟩) n c) (a ++ x :: b)) (i : Int) (hi : i = (a.length : Int)) :
    W.cell? ⟨g, i.toNat * 7 + 6, none⟩ = some (.int .i64 x.f1) ∧ W.frozen? ⟨g, i.toNat * 7 + 6, none⟩ = false ∧ ∀ v, Kd.R k76 76 (W.setCell ⟨g, i.toNat * 7 + 6, none⟩ (.int .i64 v)) base ok (.slice (some ⟨g, 0, none⟩) n c) (a ++ ⟨⟨x.f0.f0, x.f0.f1, x.f0.f2, x.f0.f3, x.f0.f4, x.f0.f5⟩, v⟩ :: b) := by
  subst hi
  have hn := (Kd.R_reads' HS).1
  have hlt : (a.length : Int) < (n : Int) := by rw [hn, List.length_append, List.length_cons]; omega
  obtain ⟨ce, hcl, hM, hcc, hfr⟩ := Kd.R_elem HS z76 (a.length : Int) (by omega) hlt
  rw [Int.toNat_natCast, laws_markStatedS.get_at] at hM
  obtain rfl := k76_openM hM
  refine ⟨hcc 6 _ rfl, hfr 6, fun v => ?_⟩
  have := (Kd.R_seg HS (a.length : Int) (by omega) hlt hcl hcc (seg := [.int .i64 v]) (j := 6) (show 7 ≤ 7 from by decide) (x' := ⟨⟨x.f0.f0, x.f0.f1, x.f0.f2, x.f0.f3, x.f0.f4, x.f0.f5⟩, v⟩) (k76_mkM W base (fun k => ok k ∧ k ≠ g) ⟨⟨x.f0.f0, x.f0.f1, x.f0.f2, x.f0.f3, x.f0.f4, x.f0.f5⟩, v⟩) (fun _ hk => hk)).1
  rw [Int.toNat_natCast, laws_markStatedS.set_at] at this
  exact this
def laws_markStatedS.g : List S76 → Int → Int × List S76
  | [], k => (k, [])
  | _ :: l, k => ((laws_markStatedS.g l (wrap64 ((wrap64 ((wrap64 ((wrap64 ((wrap64 ((wrap64 ((wrap64 (k + 1)) + 1)) + 1)) + 1)) + 1)) + 1)) + 1))).1, ⟨⟨k, wrap64 (k + 1), wrap64 ((wrap64 (k + 1)) + 1), wrap64 ((wrap64 ((wrap64 (k + 1)) + 1)) + 1), wrap64 ((wrap64 ((wrap64 ((wrap64 (k + 1)) + 1)) + 1)) + 1), wrap64 ((wrap64 ((wrap64 ((wrap64 ((wrap64 (k + 1)) + 1)) + 1)) + 1)) + 1)⟩, wrap64 ((wrap64 ((wrap64 ((wrap64 ((wrap64 ((wrap64 (k + 1)) + 1)) + 1)) + 1)) + 1)) + 1)⟩ :: (laws_markStatedS.g l (wrap64 ((wrap64 ((wrap64 ((wrap64 ((wrap64 ((wrap64 ((wrap64 (k + 1)) + 1)) + 1)) + 1)) + 1)) + 1)) + 1))).2)
def laws_markStatedS.f (l0 : List S76) (a1 : Int) : Option (Int × List S76) := some (laws_markStatedS.g l0 a1)
set_option maxHeartbeats 8000000 in
set_option maxRecDepth 100000 in
theorem laws_markStatedS.calls (P0_ : Nat → Prop) (u9000_ : Value) (l0 : List (S76)) (a1 : Int) (r1 : Int) (r2 : List (S76)) (w0 w : World) (hB : Below w0.heap.size w0 w) (ho0 : Kd.R k76 76 w w0.heap.size P0_ u9000_ l0) (h : laws_markStatedS.f l0 a1 = some (r1, r2)) :
    Calls Try.prog 28 #[u9000_, .int .i64 a1] w fun e w' => e = .returned (.int .i64 r1) ∧ Kd.R k76 76 w' w0.heap.size P0_ u9000_ r2 ∧ Below w0.heap.size w0 w' ∧ Kept w w' (fun k_ => P0_ k_) := by
  have hu := Try.underlying76
  obtain ⟨A, c, rfl⟩ := Kd.R_slice ho0
  have HR := Aside0.mk h
  have HMX := Aside0.mk (Kd.C_max (Kd.R_reads' ho0).2.2)
  have HO0 := Aside0.mk ho0
  have HB0 := Aside0.mk hB
  clear ho0 hB h
  obtain ⟨N, hN⟩ : ∃ N, N = l0.length := ⟨_, rfl⟩
  have HNN := Aside0.mk hN
  go_enter Try.func28, Try.ntmps28
  go_wp2
  go_loopg [1, 5] N (fun kq v1 v5 w' => ∃ (z : Int) (kc : Int) (a b : List (S76)), v1 = .int .i64 kc ∧ v5 = .int .i64 z ∧ Aside0 (z = (a.length : Int)) ∧ Aside0 (a.length + b.length = l0.length) ∧ Aside0 (b.length ≤ kq) ∧ Aside0 (r1 = (laws_markStatedS.g b kc).1 ∧ r2 = a ++ (laws_markStatedS.g b kc).2) ∧ Aside0 (Kd.R k76 76 w' w0.heap.size P0_ (.slice A l0.length c) (a ++ b)) ∧ Aside0 (Below w0.heap.size w0 w') ∧ Aside0 (Kept w w' (fun k_ => P0_ k_)))
  case atStart => exact ⟨0, a1, [], l0, rfl, rfl, ⟨rfl⟩, ⟨by simp⟩, ⟨by omega⟩, ⟨by have := Option.some.inj HR.out; rw [this]; exact ⟨rfl, rfl⟩⟩, HO0, HB0, ⟨Kept.refl _ _⟩⟩
  case round =>
    obtain ⟨z, kc, a, b, rfl, rfl, HZ, HL, HM, HG, HO, HB, HK⟩ := hrel
    have hz0 : (0 ≤ z) = True := eq_true (by rw [HZ.out]; omega)
    cases b with
    | nil =>
      have hz1 : decide (z < (l0.length : Int)) = false := decide_eq_false (by have := HL.out; rw [HZ.out]; simp at this; omega)
      go_wp2
      go_ret
      have hg := HG.out
      simp only [laws_markStatedS.g, List.append_nil] at hg
      obtain ⟨rfl, rfl⟩ := hg
      refine ⟨rfl, ?_, HB.out, HK.out⟩
      have := HO.out
      rwa [List.append_nil] at this
    | cons x b =>
      have hlt : z < (l0.length : Int) := by have := HL.out; rw [HZ.out]; simp at this; omega
      have hz1 : decide (z < (l0.length : Int)) = true := decide_eq_true hlt
      have hz2 : (z < (l0.length : Int)) = True := eq_true hlt
      clear hlt
      obtain ⟨g, cg, eg, gb, gl, gg⟩ := Kd.R_form HO.out (by simp; omega)
      injection eg with ea en ec
      subst ea
      subst ec
      clear en gb gl gg
      have HMg : Aside0 (P0_ g) := ⟨HO.out.1 g (by simp [Value.ownBlock])⟩
      have HW0 : Aside0 (w0.heap.size ≤ g) := ⟨Kd.R_base HO.out g (by simp [Value.ownBlock])⟩
      obtain ⟨hx0, hf0, hq0⟩ := laws_markStatedS.put0 HO.out z HZ.out
      have HQ0 := Aside0.mk (hq0 (kc))
      clear hq0
      go_wp2_with (first
        | ((with_reducible refine gate_store (t := 3) (p := 17) rfl ?_); refine store_event (t := 3) (p := 17) (v := ?vo17) (w1 := (wr.setCell ⟨g, z.toNat * 7, none⟩ (.int .i64 (kc)))) ?hg ?ho ?hn ?hr ?_; (case ho => rfl); (case hg => rfl); (case hn => rfl); (case hr => first | (go_simp; done) | (go_simp; rfl))
           intro w1 hw
           have HO1 := Aside0.mk (show Kd.R k76 76 w1 _ _ _ _ from by rw [hw]; exact HQ0.out)
           have HB1 := Aside0.mk (show Below w0.heap.size w0 w1 from by rw [hw]; exact below_set HB.out HW0.out)
           have HK1 := Aside0.mk (show Kept w w1 (fun k_ => P0_ k_) from by rw [hw]; exact HK.out.setCell (.inl HMg.out) _)
           clear hw HO HB HK HQ0 hx0 hf0
           obtain ⟨hx1, hf1, hq1⟩ := laws_markStatedS.put1 HO1.out z HZ.out
           have HQ1 := Aside0.mk (hq1 (wrap64 (kc + 1)))
           clear hq1)
        | ((with_reducible refine gate_store (t := 3) (p := 25) rfl ?_); refine store_event (t := 3) (p := 25) (v := ?vo25) (w1 := (w1.setCell ⟨g, z.toNat * 7 + 1, none⟩ (.int .i64 (wrap64 (kc + 1))))) ?hg ?ho ?hn ?hr ?_; (case ho => rfl); (case hg => rfl); (case hn => rfl); (case hr => first | (go_simp; done) | (go_simp; rfl))
           intro w2 hw
           have HO2 := Aside0.mk (show Kd.R k76 76 w2 _ _ _ _ from by rw [hw]; exact HQ1.out)
           have HB2 := Aside0.mk (show Below w0.heap.size w0 w2 from by rw [hw]; exact below_set HB1.out HW0.out)
           have HK2 := Aside0.mk (show Kept w w2 (fun k_ => P0_ k_) from by rw [hw]; exact HK1.out.setCell (.inl HMg.out) _)
           clear hw HO1 HB1 HK1 HQ1 hx1 hf1
           obtain ⟨hx2, hf2, hq2⟩ := laws_markStatedS.put2 HO2.out z HZ.out
           have HQ2 := Aside0.mk (hq2 (wrap64 (wrap64 (kc + 1) + 1)))
           clear hq2)
        | ((with_reducible refine gate_store (t := 3) (p := 33) rfl ?_); refine store_event (t := 3) (p := 33) (v := ?vo33) (w1 := (w2.setCell ⟨g, z.toNat * 7 + 2, none⟩ (.int .i64 (wrap64 (wrap64 (kc + 1) + 1))))) ?hg ?ho ?hn ?hr ?_; (case ho => rfl); (case hg => rfl); (case hn => rfl); (case hr => first | (go_simp; done) | (go_simp; rfl))
           intro w3 hw
           have HO3 := Aside0.mk (show Kd.R k76 76 w3 _ _ _ _ from by rw [hw]; exact HQ2.out)
           have HB3 := Aside0.mk (show Below w0.heap.size w0 w3 from by rw [hw]; exact below_set HB2.out HW0.out)
           have HK3 := Aside0.mk (show Kept w w3 (fun k_ => P0_ k_) from by rw [hw]; exact HK2.out.setCell (.inl HMg.out) _)
           clear hw HO2 HB2 HK2 HQ2 hx2 hf2
           obtain ⟨hx3, hf3, hq3⟩ := laws_markStatedS.put3 HO3.out z HZ.out
           have HQ3 := Aside0.mk (hq3 (wrap64 (wrap64 (wrap64 (kc + 1) + 1) + 1)))
           clear hq3)
        | ((with_reducible refine gate_store (t := 3) (p := 41) rfl ?_); refine store_event (t := 3) (p := 41) (v := ?vo41) (w1 := (w3.setCell ⟨g, z.toNat * 7 + 3, none⟩ (.int .i64 (wrap64 (wrap64 (wrap64 (kc + 1) + 1) + 1))))) ?hg ?ho ?hn ?hr ?_; (case ho => rfl); (case hg => rfl); (case hn => rfl); (case hr => first | (go_simp; done) | (go_simp; rfl))
           intro w4 hw
           have HO4 := Aside0.mk (show Kd.R k76 76 w4 _ _ _ _ from by rw [hw]; exact HQ3.out)
           have HB4 := Aside0.mk (show Below w0.heap.size w0 w4 from by rw [hw]; exact below_set HB3.out HW0.out)
           have HK4 := Aside0.mk (show Kept w w4 (fun k_ => P0_ k_) from by rw [hw]; exact HK3.out.setCell (.inl HMg.out) _)
           clear hw HO3 HB3 HK3 HQ3 hx3 hf3
           obtain ⟨hx4, hf4, hq4⟩ := laws_markStatedS.put4 HO4.out z HZ.out
           have HQ4 := Aside0.mk (hq4 (wrap64 (wrap64 (wrap64 (wrap64 (kc + 1) + 1) + 1) + 1)))
           clear hq4)
        | ((with_reducible refine gate_store (t := 3) (p := 49) rfl ?_); refine store_event (t := 3) (p := 49) (v := ?vo49) (w1 := (w4.setCell ⟨g, z.toNat * 7 + 4, none⟩ (.int .i64 (wrap64 (wrap64 (wrap64 (wrap64 (kc + 1) + 1) + 1) + 1))))) ?hg ?ho ?hn ?hr ?_; (case ho => rfl); (case hg => rfl); (case hn => rfl); (case hr => first | (go_simp; done) | (go_simp; rfl))
           intro w5 hw
           have HO5 := Aside0.mk (show Kd.R k76 76 w5 _ _ _ _ from by rw [hw]; exact HQ4.out)
           have HB5 := Aside0.mk (show Below w0.heap.size w0 w5 from by rw [hw]; exact below_set HB4.out HW0.out)
           have HK5 := Aside0.mk (show Kept w w5 (fun k_ => P0_ k_) from by rw [hw]; exact HK4.out.setCell (.inl HMg.out) _)
           clear hw HO4 HB4 HK4 HQ4 hx4 hf4
           obtain ⟨hx5, hf5, hq5⟩ := laws_markStatedS.put5 HO5.out z HZ.out
           have HQ5 := Aside0.mk (hq5 (wrap64 (wrap64 (wrap64 (wrap64 (wrap64 (kc + 1) + 1) + 1) + 1) + 1)))
           clear hq5)
        | ((with_reducible refine gate_store (t := 3) (p := 57) rfl ?_); refine store_event (t := 3) (p := 57) (v := ?vo57) (w1 := (w5.setCell ⟨g, z.toNat * 7 + 5, none⟩ (.int .i64 (wrap64 (wrap64 (wrap64 (wrap64 (wrap64 (kc + 1) + 1) + 1) + 1) + 1))))) ?hg ?ho ?hn ?hr ?_; (case ho => rfl); (case hg => rfl); (case hn => rfl); (case hr => first | (go_simp; done) | (go_simp; rfl))
           intro w6 hw
           have HO6 := Aside0.mk (show Kd.R k76 76 w6 _ _ _ _ from by rw [hw]; exact HQ5.out)
           have HB6 := Aside0.mk (show Below w0.heap.size w0 w6 from by rw [hw]; exact below_set HB5.out HW0.out)
           have HK6 := Aside0.mk (show Kept w w6 (fun k_ => P0_ k_) from by rw [hw]; exact HK5.out.setCell (.inl HMg.out) _)
           clear hw HO5 HB5 HK5 HQ5 hx5 hf5
           obtain ⟨hx6, hf6, hq6⟩ := laws_markStatedS.put6 HO6.out z HZ.out
           have HQ6 := Aside0.mk (hq6 (wrap64 (wrap64 (wrap64 (wrap64 (wrap64 (wrap64 (kc + 1) + 1) + 1) + 1) + 1) + 1)))
           clear hq6)
        | ((with_reducible refine gate_store (t := 3) (p := 64) rfl ?_); refine store_event (t := 3) (p := 64) (v := ?vo64) (w1 := (w6.setCell ⟨g, z.toNat * 7 + 6, none⟩ (.int .i64 (wrap64 (wrap64 (wrap64 (wrap64 (wrap64 (wrap64 (kc + 1) + 1) + 1) + 1) + 1) + 1))))) ?hg ?ho ?hn ?hr ?_; (case ho => rfl); (case hg => rfl); (case hn => rfl); (case hr => first | (go_simp; done) | (go_simp; rfl))
           intro w7 hw
           have HO7 := Aside0.mk (show Kd.R k76 76 w7 _ _ _ _ from by rw [hw]; exact HQ6.out)
           have HB7 := Aside0.mk (show Below w0.heap.size w0 w7 from by rw [hw]; exact below_set HB6.out HW0.out)
           have HK7 := Aside0.mk (show Kept w w7 (fun k_ => P0_ k_) from by rw [hw]; exact HK6.out.setCell (.inl HMg.out) _)
           clear hw HO6 HB6 HK6 HQ6 hx6 hf6))
      cases gk with
      | zero => exact absurd HM.out (by simp)
      | succ k1 =>
      go_roundg k1
      case measure => omega
      case rel =>
        refine ⟨z + 1, wrap64 (wrap64 (wrap64 (wrap64 (wrap64 (wrap64 (wrap64 (kc + 1) + 1) + 1) + 1) + 1) + 1) + 1), a ++ [⟨⟨kc, wrap64 (kc + 1), wrap64 (wrap64 (kc + 1) + 1), wrap64 (wrap64 (wrap64 (kc + 1) + 1) + 1), wrap64 (wrap64 (wrap64 (wrap64 (kc + 1) + 1) + 1) + 1), wrap64 (wrap64 (wrap64 (wrap64 (wrap64 (kc + 1) + 1) + 1) + 1) + 1)⟩, wrap64 (wrap64 (wrap64 (wrap64 (wrap64 (wrap64 (kc + 1) + 1) + 1) + 1) + 1) + 1)⟩], b, ?_, ?_, ⟨by rw [HZ.out]; simp⟩, ⟨by have := HL.out; simp at this ⊢; omega⟩, ⟨by have := HM.out; simp at this; omega⟩, ⟨?_⟩, ⟨?_⟩, HB7, HK7⟩
        · rfl
        · have h1 := of_eq_true hz2
          have h2 := of_eq_true hz0
          have h3 := HMX.out
          show Value.int .i64 (wrap64 (z + 1)) = .int .i64 (z + 1)
          rw [show wrap64 (z + 1) = z + 1 by unfold wrap64; omega]
        · have := HG.out
          rw [laws_markStatedS.g] at this
          simpa using this
        · rw [List.append_assoc]
          exact HO7.out

/-! ### laws_heldFactS: function 29 -/
def laws_heldFactS.l0 : Nat → List (S55) → Int → Int → Option (Int)
 | 0, _, _, _ => none
 | k + 1, x0, x1, x5 => if x5 < (x0.length : Int) then (if 0 ≤ x5 then (if ((rd_T55 x0 x5).f0) = x1 then (if ((rd_T55 x0 x5).f1) = (wrap64 (x1 + 1)) then (if ((rd_T55 x0 x5).f2) = (wrap64 ((wrap64 (x1 + 1)) + 1)) then (if ((rd_T55 x0 x5).f3) = (wrap64 ((wrap64 ((wrap64 (x1 + 1)) + 1)) + 1)) then (if ((rd_T55 x0 x5).f4) = (wrap64 ((wrap64 ((wrap64 ((wrap64 (x1 + 1)) + 1)) + 1)) + 1)) then (if ((rd_T55 x0 x5).f5) = (wrap64 ((wrap64 ((wrap64 ((wrap64 ((wrap64 (x1 + 1)) + 1)) + 1)) + 1)) + 1)) then (laws_heldFactS.l0 k x0 (wrap64 ((wrap64 ((wrap64 ((wrap64 ((wrap64 ((wrap64 (x1 + 1)) + 1)) + 1)) + 1)) + 1)) + 1)) (wrap64 (x5 + 1))) else (some (-1))) else (some (-1))) else (some (-1))) else (some (-1))) else (some (-1))) else (some (-1))) else (none)) else (some x1)
def laws_heldFactS.f (k : Nat) (l0 : List (S55)) (a1 : Int) : Option (Int) := laws_heldFactS.l0 k l0 a1 0
set_option maxHeartbeats 8000000 in
set_option maxRecDepth 100000 in
theorem laws_heldFactS.calls (k : Nat) (A0 : Option Addr) (c0 : Nat) (l0 : List (S55)) (a1 : Int) (r : Int) (w : World) (hr0 : Kd.C k55 w A0 l0.length l0) (hc0 : l0.length ≤ c0) (h : laws_heldFactS.f k l0 a1 = some r) :
  Calls Try.prog 29 #[.slice A0 l0.length c0, .int .i64 a1] w fun e w' => e = .returned (.int .i64 r) ∧ Drawn0 w w' := by
 have HR0 := Aside0.mk hr0
 have HC0 := Aside0.mk hc0
 clear hr0 hc0
 have H : (laws_heldFactS.l0 k l0 a1 0) = some r := h
 clear h
 have H' := Aside0.mk H
 clear H
 go_enter Try.func29, Try.ntmps29
 go_wp2
 go_loopg [1, 5] k (fun kq v1 v5 w' => ∃ (x1_1 : Int) (x5_1 : Int), v1 = .int .i64 x1_1 ∧ v5 = .int .i64 x5_1 ∧ Aside0 (laws_heldFactS.l0 kq l0 x1_1 x5_1 = some r) ∧ Aside0 (kq ≤ k) ∧ Drawn0 w w')
 case atStart => exact ⟨(a1), (0), r_, r_, H', ⟨Nat.le_refl _⟩, by repeat (first | exact Drawn0.refl _ | apply Drawn0.step)⟩
 case round =>
  clear H'; try clear c2; try clear p2
  obtain ⟨x1_1, x5_1, rfl, rfl, HA, HK1, ⟨m1, rfl⟩⟩ := hrel
  cases gk with
  | zero => exact absurd HA.out (by simp [laws_heldFactS.l0])
  | succ k1 =>
   have H := HA.out
   clear HA
   simp only [laws_heldFactS.l0] at H
   by_cases c3 : x5_1 < (l0.length : Int)
   ·rw [if_pos c3] at H
    have c3b0 : decide (x5_1 < (l0.length : Int)) = true := decide_eq_true c3
    clear c3
    by_cases c4 : 0 ≤ x5_1
    ·rw [if_pos c4] at H
     have c4b0 : decide (0 ≤ x5_1) = true := decide_eq_true c4
     clear c4
     by_cases c5 : ((rd_T55 l0 x5_1).f0) = x1_1
     ·rw [if_pos c5] at H
      have c5b0 : (((rd_T55 l0 x5_1).f0) == x1_1) = true := beq_iff_eq.mpr c5
      have c5b1 : (((rd_T55 l0 x5_1).f0) != x1_1) = false := bne_eq_false_iff_eq.mpr c5
      clear c5
      by_cases c6 : ((rd_T55 l0 x5_1).f1) = (wrap64 (x1_1 + 1))
      ·rw [if_pos c6] at H
       have c6b0 : (((rd_T55 l0 x5_1).f1) == (wrap64 (x1_1 + 1))) = true := beq_iff_eq.mpr c6
       have c6b1 : (((rd_T55 l0 x5_1).f1) != (wrap64 (x1_1 + 1))) = false := bne_eq_false_iff_eq.mpr c6
       clear c6
       by_cases c7 : ((rd_T55 l0 x5_1).f2) = (wrap64 ((wrap64 (x1_1 + 1)) + 1))
       ·rw [if_pos c7] at H
        have c7b0 : (((rd_T55 l0 x5_1).f2) == (wrap64 ((wrap64 (x1_1 + 1)) + 1))) = true := beq_iff_eq.mpr c7
        have c7b1 : (((rd_T55 l0 x5_1).f2) != (wrap64 ((wrap64 (x1_1 + 1)) + 1))) = false := bne_eq_false_iff_eq.mpr c7
        clear c7
        by_cases c8 : ((rd_T55 l0 x5_1).f3) = (wrap64 ((wrap64 ((wrap64 (x1_1 + 1)) + 1)) + 1))
        ·rw [if_pos c8] at H
         have c8b0 : (((rd_T55 l0 x5_1).f3) == (wrap64 ((wrap64 ((wrap64 (x1_1 + 1)) + 1)) + 1))) = true := beq_iff_eq.mpr c8
         have c8b1 : (((rd_T55 l0 x5_1).f3) != (wrap64 ((wrap64 ((wrap64 (x1_1 + 1)) + 1)) + 1))) = false := bne_eq_false_iff_eq.mpr c8
         clear c8
         by_cases c9 : ((rd_T55 l0 x5_1).f4) = (wrap64 ((wrap64 ((wrap64 ((wrap64 (x1_1 + 1)) + 1)) + 1)) + 1))
         ·rw [if_pos c9] at H
          have c9b0 : (((rd_T55 l0 x5_1).f4) == (wrap64 ((wrap64 ((wrap64 ((wrap64 (x1_1 + 1)) + 1)) + 1)) + 1))) = true := beq_iff_eq.mpr c9
          have c9b1 : (((rd_T55 l0 x5_1).f4) != (wrap64 ((wrap64 ((wrap64 ((wrap64 (x1_1 + 1)) + 1)) + 1)) + 1))) = false := bne_eq_false_iff_eq.mpr c9
          clear c9
          by_cases c10 : ((rd_T55 l0 x5_1).f5) = (wrap64 ((wrap64 ((wrap64 ((wrap64 ((wrap64 (x1_1 + 1)) + 1)) + 1)) + 1)) + 1))
          ·rw [if_pos c10] at H
           have c10b0 : (((rd_T55 l0 x5_1).f5) == (wrap64 ((wrap64 ((wrap64 ((wrap64 ((wrap64 (x1_1 + 1)) + 1)) + 1)) + 1)) + 1))) = true := beq_iff_eq.mpr c10
           have c10b1 : (((rd_T55 l0 x5_1).f5) != (wrap64 ((wrap64 ((wrap64 ((wrap64 ((wrap64 (x1_1 + 1)) + 1)) + 1)) + 1)) + 1))) = false := bne_eq_false_iff_eq.mpr c10
           clear c10
           have H' := Aside0.mk H
           clear H
           have p452 : 0 ≤ (x5_1 : Int) := of_decide_eq_true s_
           have q452 : x5_1 < (l0.length : Int) := of_decide_eq_true s_
           obtain ⟨ad452, e452, hx452_0, hx452_1, hx452_2, hx452_3, hx452_4, hx452_5⟩ := at_T55 HR0.out x5_1 p452 q452
           cases e452
           replace p452 := eq_true p452
           replace q452 := eq_true q452
           have p453 : 0 ≤ (x5_1 : Int) := of_decide_eq_true s_
           have q453 : x5_1 < (l0.length : Int) := of_decide_eq_true s_
           obtain ⟨ad453, e453, hx453_0, hx453_1, hx453_2, hx453_3, hx453_4, hx453_5⟩ := at_T55 HR0.out x5_1 p453 q453
           obtain rfl : ad452 = ad453 := (by injection e453)
           replace p453 := eq_true p453
           replace q453 := eq_true q453
           have p454 : 0 ≤ (x5_1 : Int) := of_decide_eq_true s_
           have q454 : x5_1 < (l0.length : Int) := of_decide_eq_true s_
           obtain ⟨ad454, e454, hx454_0, hx454_1, hx454_2, hx454_3, hx454_4, hx454_5⟩ := at_T55 HR0.out x5_1 p454 q454
           obtain rfl : ad452 = ad454 := (by injection e454)
           replace p454 := eq_true p454
           replace q454 := eq_true q454
           have p455 : 0 ≤ (x5_1 : Int) := of_decide_eq_true s_
           have q455 : x5_1 < (l0.length : Int) := of_decide_eq_true s_
           obtain ⟨ad455, e455, hx455_0, hx455_1, hx455_2, hx455_3, hx455_4, hx455_5⟩ := at_T55 HR0.out x5_1 p455 q455
           obtain rfl : ad452 = ad455 := (by injection e455)
           replace p455 := eq_true p455
           replace q455 := eq_true q455
           have p456 : 0 ≤ (x5_1 : Int) := of_decide_eq_true s_
           have q456 : x5_1 < (l0.length : Int) := of_decide_eq_true s_
           obtain ⟨ad456, e456, hx456_0, hx456_1, hx456_2, hx456_3, hx456_4, hx456_5⟩ := at_T55 HR0.out x5_1 p456 q456
           obtain rfl : ad452 = ad456 := (by injection e456)
           replace p456 := eq_true p456
           replace q456 := eq_true q456
           have p457 : 0 ≤ (x5_1 : Int) := of_decide_eq_true s_
           have q457 : x5_1 < (l0.length : Int) := of_decide_eq_true s_
           obtain ⟨ad457, e457, hx457_0, hx457_1, hx457_2, hx457_3, hx457_4, hx457_5⟩ := at_T55 HR0.out x5_1 p457 q457
           obtain rfl : ad452 = ad457 := (by injection e457)
           replace p457 := eq_true p457
           replace q457 := eq_true q457
           go_wp2
           go_roundg k1
           case measure => have := HK1.out; omega
           case rel => exact ⟨(wrap64 ((wrap64 ((wrap64 ((wrap64 ((wrap64 ((wrap64 (x1_1 + 1)) + 1)) + 1)) + 1)) + 1)) + 1)), (wrap64 (x5_1 + 1)), r_, r_, H', ⟨by have := HK1.out; omega⟩, by repeat (first | exact Drawn0.refl _ | apply Drawn0.step)⟩
          ·rw [if_neg c10] at H
           have c10b0 : (((rd_T55 l0 x5_1).f5) == (wrap64 ((wrap64 ((wrap64 ((wrap64 ((wrap64 (x1_1 + 1)) + 1)) + 1)) + 1)) + 1))) = false := beq_eq_false_iff_ne.mpr c10
           have c10b1 : (((rd_T55 l0 x5_1).f5) != (wrap64 ((wrap64 ((wrap64 ((wrap64 ((wrap64 (x1_1 + 1)) + 1)) + 1)) + 1)) + 1))) = true := bne_iff_ne.mpr c10
           obtain rfl := Option.some.inj H
           have p452 : 0 ≤ (x5_1 : Int) := of_decide_eq_true s_
           have q452 : x5_1 < (l0.length : Int) := of_decide_eq_true s_
           obtain ⟨ad452, e452, hx452_0, hx452_1, hx452_2, hx452_3, hx452_4, hx452_5⟩ := at_T55 HR0.out x5_1 p452 q452
           cases e452
           replace p452 := eq_true p452
           replace q452 := eq_true q452
           have p453 : 0 ≤ (x5_1 : Int) := of_decide_eq_true s_
           have q453 : x5_1 < (l0.length : Int) := of_decide_eq_true s_
           obtain ⟨ad453, e453, hx453_0, hx453_1, hx453_2, hx453_3, hx453_4, hx453_5⟩ := at_T55 HR0.out x5_1 p453 q453
           obtain rfl : ad452 = ad453 := (by injection e453)
           replace p453 := eq_true p453
           replace q453 := eq_true q453
           have p454 : 0 ≤ (x5_1 : Int) := of_decide_eq_true s_
           have q454 : x5_1 < (l0.length : Int) := of_decide_eq_true s_
           obtain ⟨ad454, e454, hx454_0, hx454_1, hx454_2, hx454_3, hx454_4, hx454_5⟩ := at_T55 HR0.out x5_1 p454 q454
           obtain rfl : ad452 = ad454 := (by injection e454)
           replace p454 := eq_true p454
           replace q454 := eq_true q454
           have p455 : 0 ≤ (x5_1 : Int) := of_decide_eq_true s_
           have q455 : x5_1 < (l0.length : Int) := of_decide_eq_true s_
           obtain ⟨ad455, e455, hx455_0, hx455_1, hx455_2, hx455_3, hx455_4, hx455_5⟩ := at_T55 HR0.out x5_1 p455 q455
           obtain rfl : ad452 = ad455 := (by injection e455)
           replace p455 := eq_true p455
           replace q455 := eq_true q455
           have p456 : 0 ≤ (x5_1 : Int) := of_decide_eq_true s_
           have q456 : x5_1 < (l0.length : Int) := of_decide_eq_true s_
           obtain ⟨ad456, e456, hx456_0, hx456_1, hx456_2, hx456_3, hx456_4, hx456_5⟩ := at_T55 HR0.out x5_1 p456 q456
           obtain rfl : ad452 = ad456 := (by injection e456)
           replace p456 := eq_true p456
           replace q456 := eq_true q456
           have p457 : 0 ≤ (x5_1 : Int) := of_decide_eq_true s_
           have q457 : x5_1 < (l0.length : Int) := of_decide_eq_true s_
           obtain ⟨ad457, e457, hx457_0, hx457_1, hx457_2, hx457_3, hx457_4, hx457_5⟩ := at_T55 HR0.out x5_1 p457 q457
           obtain rfl : ad452 = ad457 := (by injection e457)
           replace p457 := eq_true p457
           replace q457 := eq_true q457
           go_wp2
           go_ret
           exact ⟨r_, by repeat (first | exact Drawn0.refl _ | apply Drawn0.step)⟩
         ·rw [if_neg c9] at H
          have c9b0 : (((rd_T55 l0 x5_1).f4) == (wrap64 ((wrap64 ((wrap64 ((wrap64 (x1_1 + 1)) + 1)) + 1)) + 1))) = false := beq_eq_false_iff_ne.mpr c9
          have c9b1 : (((rd_T55 l0 x5_1).f4) != (wrap64 ((wrap64 ((wrap64 ((wrap64 (x1_1 + 1)) + 1)) + 1)) + 1))) = true := bne_iff_ne.mpr c9
          obtain rfl := Option.some.inj H
          have p452 : 0 ≤ (x5_1 : Int) := of_decide_eq_true s_
          have q452 : x5_1 < (l0.length : Int) := of_decide_eq_true s_
          obtain ⟨ad452, e452, hx452_0, hx452_1, hx452_2, hx452_3, hx452_4, hx452_5⟩ := at_T55 HR0.out x5_1 p452 q452
          cases e452
          replace p452 := eq_true p452
          replace q452 := eq_true q452
          have p453 : 0 ≤ (x5_1 : Int) := of_decide_eq_true s_
          have q453 : x5_1 < (l0.length : Int) := of_decide_eq_true s_
          obtain ⟨ad453, e453, hx453_0, hx453_1, hx453_2, hx453_3, hx453_4, hx453_5⟩ := at_T55 HR0.out x5_1 p453 q453
          obtain rfl : ad452 = ad453 := (by injection e453)
          replace p453 := eq_true p453
          replace q453 := eq_true q453
          have p454 : 0 ≤ (x5_1 : Int) := of_decide_eq_true s_
          have q454 : x5_1 < (l0.length : Int) := of_decide_eq_true s_
          obtain ⟨ad454, e454, hx454_0, hx454_1, hx454_2, hx454_3, hx454_4, hx454_5⟩ := at_T55 HR0.out x5_1 p454 q454
          obtain rfl : ad452 = ad454 := (by injection e454)
          replace p454 := eq_true p454
          replace q454 := eq_true q454
          have p455 : 0 ≤ (x5_1 : Int) := of_decide_eq_true s_
          have q455 : x5_1 < (l0.length : Int) := of_decide_eq_true s_
          obtain ⟨ad455, e455, hx455_0, hx455_1, hx455_2, hx455_3, hx455_4, hx455_5⟩ := at_T55 HR0.out x5_1 p455 q455
          obtain rfl : ad452 = ad455 := (by injection e455)
          replace p455 := eq_true p455
          replace q455 := eq_true q455
          have p456 : 0 ≤ (x5_1 : Int) := of_decide_eq_true s_
          have q456 : x5_1 < (l0.length : Int) := of_decide_eq_true s_
          obtain ⟨ad456, e456, hx456_0, hx456_1, hx456_2, hx456_3, hx456_4, hx456_5⟩ := at_T55 HR0.out x5_1 p456 q456
          obtain rfl : ad452 = ad456 := (by injection e456)
          replace p456 := eq_true p456
          replace q456 := eq_true q456
          go_wp2
          go_ret
          exact ⟨r_, by repeat (first | exact Drawn0.refl _ | apply Drawn0.step)⟩
        ·rw [if_neg c8] at H
         have c8b0 : (((rd_T55 l0 x5_1).f3) == (wrap64 ((wrap64 ((wrap64 (x1_1 + 1)) + 1)) + 1))) = false := beq_eq_false_iff_ne.mpr c8
         have c8b1 : (((rd_T55 l0 x5_1).f3) != (wrap64 ((wrap64 ((wrap64 (x1_1 + 1)) + 1)) + 1))) = true := bne_iff_ne.mpr c8
         obtain rfl := Option.some.inj H
         have p452 : 0 ≤ (x5_1 : Int) := of_decide_eq_true s_
         have q452 : x5_1 < (l0.length : Int) := of_decide_eq_true s_
         obtain ⟨ad452, e452, hx452_0, hx452_1, hx452_2, hx452_3, hx452_4, hx452_5⟩ := at_T55 HR0.out x5_1 p452 q452
         cases e452
         replace p452 := eq_true p452
         replace q452 := eq_true q452
         have p453 : 0 ≤ (x5_1 : Int) := of_decide_eq_true s_
         have q453 : x5_1 < (l0.length : Int) := of_decide_eq_true s_
         obtain ⟨ad453, e453, hx453_0, hx453_1, hx453_2, hx453_3, hx453_4, hx453_5⟩ := at_T55 HR0.out x5_1 p453 q453
         obtain rfl : ad452 = ad453 := (by injection e453)
         replace p453 := eq_true p453
         replace q453 := eq_true q453
         have p454 : 0 ≤ (x5_1 : Int) := of_decide_eq_true s_
         have q454 : x5_1 < (l0.length : Int) := of_decide_eq_true s_
         obtain ⟨ad454, e454, hx454_0, hx454_1, hx454_2, hx454_3, hx454_4, hx454_5⟩ := at_T55 HR0.out x5_1 p454 q454
         obtain rfl : ad452 = ad454 := (by injection e454)
         replace p454 := eq_true p454
         replace q454 := eq_true q454
         have p455 : 0 ≤ (x5_1 : Int) := of_decide_eq_true s_
         have q455 : x5_1 < (l0.length : Int) := of_decide_eq_true s_
         obtain ⟨ad455, e455, hx455_0, hx455_1, hx455_2, hx455_3, hx455_4, hx455_5⟩ := at_T55 HR0.out x5_1 p455 q455
         obtain rfl : ad452 = ad455 := (by injection e455)
         replace p455 := eq_true p455
         replace q455 := eq_true q455
         go_wp2
         go_ret
         exact ⟨r_, by repeat (first | exact Drawn0.refl _ | apply Drawn0.step)⟩
       ·rw [if_neg c7] at H
        have c7b0 : (((rd_T55 l0 x5_1).f2) == (wrap64 ((wrap64 (x1_1 + 1)) + 1))) = false := beq_eq_false_iff_ne.mpr c7
        have c7b1 : (((rd_T55 l0 x5_1).f2) != (wrap64 ((wrap64 (x1_1 + 1)) + 1))) = true := bne_iff_ne.mpr c7
        obtain rfl := Option.some.inj H
        have p452 : 0 ≤ (x5_1 : Int) := of_decide_eq_true s_
        have q452 : x5_1 < (l0.length : Int) := of_decide_eq_true s_
        obtain ⟨ad452, e452, hx452_0, hx452_1, hx452_2, hx452_3, hx452_4, hx452_5⟩ := at_T55 HR0.out x5_1 p452 q452
        cases e452
        replace p452 := eq_true p452
        replace q452 := eq_true q452
        have p453 : 0 ≤ (x5_1 : Int) := of_decide_eq_true s_
        have q453 : x5_1 < (l0.length : Int) := of_decide_eq_true s_
        obtain ⟨ad453, e453, hx453_0, hx453_1, hx453_2, hx453_3, hx453_4, hx453_5⟩ := at_T55 HR0.out x5_1 p453 q453
        obtain rfl : ad452 = ad453 := (by injection e453)
        replace p453 := eq_true p453
        replace q453 := eq_true q453
        have p454 : 0 ≤ (x5_1 : Int) := of_decide_eq_true s_
        have q454 : x5_1 < (l0.length : Int) := of_decide_eq_true s_
        obtain ⟨ad454, e454, hx454_0, hx454_1, hx454_2, hx454_3, hx454_4, hx454_5⟩ := at_T55 HR0.out x5_1 p454 q454
        obtain rfl : ad452 = ad454 := (by injection e454)
        replace p454 := eq_true p454
        replace q454 := eq_true q454
        go_wp2
        go_ret
        exact ⟨r_, by repeat (first | exact Drawn0.refl _ | apply Drawn0.step)⟩
      ·rw [if_neg c6] at H
       have c6b0 : (((rd_T55 l0 x5_1).f1) == (wrap64 (x1_1 + 1))) = false := beq_eq_false_iff_ne.mpr c6
       have c6b1 : (((rd_T55 l0 x5_1).f1) != (wrap64 (x1_1 + 1))) = true := bne_iff_ne.mpr c6
       obtain rfl := Option.some.inj H
       have p452 : 0 ≤ (x5_1 : Int) := of_decide_eq_true s_
       have q452 : x5_1 < (l0.length : Int) := of_decide_eq_true s_
       obtain ⟨ad452, e452, hx452_0, hx452_1, hx452_2, hx452_3, hx452_4, hx452_5⟩ := at_T55 HR0.out x5_1 p452 q452
       cases e452
       replace p452 := eq_true p452
       replace q452 := eq_true q452
       have p453 : 0 ≤ (x5_1 : Int) := of_decide_eq_true s_
       have q453 : x5_1 < (l0.length : Int) := of_decide_eq_true s_
       obtain ⟨ad453, e453, hx453_0, hx453_1, hx453_2, hx453_3, hx453_4, hx453_5⟩ := at_T55 HR0.out x5_1 p453 q453
       obtain rfl : ad452 = ad453 := (by injection e453)
       replace p453 := eq_true p453
       replace q453 := eq_true q453
       go_wp2
       go_ret
       exact ⟨r_, by repeat (first | exact Drawn0.refl _ | apply Drawn0.step)⟩
     ·rw [if_neg c5] at H
      have c5b0 : (((rd_T55 l0 x5_1).f0) == x1_1) = false := beq_eq_false_iff_ne.mpr c5
      have c5b1 : (((rd_T55 l0 x5_1).f0) != x1_1) = true := bne_iff_ne.mpr c5
      obtain rfl := Option.some.inj H
      have p452 : 0 ≤ (x5_1 : Int) := of_decide_eq_true s_
      have q452 : x5_1 < (l0.length : Int) := of_decide_eq_true s_
      obtain ⟨ad452, e452, hx452_0, hx452_1, hx452_2, hx452_3, hx452_4, hx452_5⟩ := at_T55 HR0.out x5_1 p452 q452
      cases e452
      replace p452 := eq_true p452
      replace q452 := eq_true q452
      go_wp2
      go_ret
      exact ⟨r_, by repeat (first | exact Drawn0.refl _ | apply Drawn0.step)⟩
    ·rw [if_neg c4] at H
     exact absurd H (by simp)
   ·rw [if_neg c3] at H
    have c3b0 : decide (x5_1 < (l0.length : Int)) = false := decide_eq_false c3
    clear c3
    obtain rfl := Option.some.inj H
    go_wp2
    go_ret
    exact ⟨r_, by repeat (first | exact Drawn0.refl _ | apply Drawn0.step)⟩

/-! ### laws_FnExactTakeStated: function 3 -/
-- XIMPORT Derived.Test.YtabpgiebhgkfhaaTree
def laws_FnExactTakeStated.f (k : Nat) (l0 : List (S45)) (l1 : List (S53)) (l2 : List (S82)) : Option (Bool) := (laws_szIssuerS.f k l0 1048576).bind fun t2 => (if t2 < 0 then some true else ((laws_szFactS.f l1 t2).bind fun t6 => (if t6 < 0 then some true else ((laws_szStatedS.f l2 t6).bind fun t10 => (if t10 < 0 then some true else ((laws_toIssuerS.f k l0).bind fun t14 => ((laws_toFactS.f k l1).bind fun t20 => ((laws_toStatedS.f k l2).bind fun t26 => ((spec_TakeStated.f k t14 t20 t26).bind fun (t32, t33) => ((laws_toIssuerS.f k l0).bind fun t39 => ((laws_toFactS.f k l1).bind fun t45 => ((laws_toStatedS.f k l2).bind fun t51 => ((impl_TakeStated.f k t39 t45 t51).bind fun (t57, t58) => ((laws_eqFactS.f k t57 t32).bind fun t64 => (if t64 = true then (if t33 = t58 then ((laws_toIssuerS.f k l0).bind fun t69 => ((laws_eqIssuerS.f k t39 t69).bind fun t75 => (if t75 = true then ((laws_toFactS.f k l1).bind fun t79 => ((laws_eqFactS.f k t45 t79).bind fun t85 => (if t85 = true then ((laws_toStatedS.f k l2).bind fun t89 => ((laws_eqStatedS.f k t51 t89).bind fun t95 => (if t95 = true then ((laws_markIssuerS.f k t39 1).bind fun (t99, t100) => ((laws_markFactS.f k t45 t99).bind fun (t103, t104) => ((laws_markStatedS.f t51 t103).bind fun (t107, t108) => (if t107 < 0 then some false else ((laws_eqFactS.f k t57 t32).bind fun t112 => (if t112 = true then ((laws_markFactS.f k t57 1).bind fun (t117, t118) => ((laws_heldFactS.f k t118 1).bind fun t122 => (if t122 < 0 then some false else (if t117 = t122 then ((laws_toIssuerS.f k l0).bind fun t127 => ((laws_toFactS.f k l1).bind fun t133 => ((laws_toStatedS.f k l2).bind fun t139 => ((impl_TakeStated.f k t127 t133 t139).bind fun (t145, t146) => ((laws_eqFactS.f k t145 t32).bind fun t152 => (if t152 = true then (if t33 = t146 then ((laws_heldFactS.f k t118 1).bind fun t157 => (if t157 < 0 then some false else (if t117 = t157 then (some true) else some false))) else some false) else some false)))))) else some false)))) else some false)))))) else some false))) else some false))) else some false))) else some false) else some false)))))))))))))))
set_option maxHeartbeats 8000000 in
set_option maxRecDepth 100000 in
theorem laws_FnExactTakeStated.calls (k : Nat) (A0 : Option Addr) (c0 : Nat) (l0 : List (S45)) (A1 : Option Addr) (c1 : Nat) (l1 : List (S53)) (A2 : Option Addr) (c2 : Nat) (l2 : List (S82)) (r : Bool) (w : World) (hr0 : Kd.C k45 w A0 l0.length l0) (hc0 : l0.length ≤ c0) (hr1 : Kd.C k53 w A1 l1.length l1) (hc1 : l1.length ≤ c1) (hr2 : Kd.C k82 w A2 l2.length l2) (hc2 : l2.length ≤ c2) (h : laws_FnExactTakeStated.f k l0 l1 l2 = some r) (hr_ : Aside0 (r = true)) :
  Calls Try.prog 3 #[.slice A0 l0.length c0, .slice A1 l1.length c1, .slice A2 l2.length c2] w fun e w' => e = .returned (.bool r) ∧ Below w.heap.size w w' := by
 obtain rfl := hr_.out
 have HR0 := Aside0.mk hr0
 have HC0 := Aside0.mk hc0
 clear hr0 hc0
 have HR1 := Aside0.mk hr1
 have HC1 := Aside0.mk hc1
 clear hr1 hc1
 have HR2 := Aside0.mk hr2
 have HC2 := Aside0.mk hc2
 clear hr2 hc2
 have HB := Aside0.mk (Below.refl w.heap.size w)
 have HS : Aside0 (0 ≤ w.heap.size) := ⟨Nat.zero_le _⟩
 unfold laws_FnExactTakeStated.f at h
 replace h := bA h; obtain ⟨t2, E1, h⟩ := h
 by_cases c4 : t2 < 0
 ·have cb_c4 : decide (t2 < 0) = true := decide_eq_true c4
  clear h
  go_enter Try.func3, Try.ntmps3
  go_wp2_with (first | ((with_reducible refine gate_callee (f := 15) rfl ?_); refine goesL_ (some 22) rfl rfl Try.func15 k_ rfl #[.slice A0 l0.length c0, .int .i64 1048576] rfl m_ ?_; (with_reducible refine (laws_szIssuerS.calls k _ _ l0 1048576 t2 _ ?side1 ?side2 E1.out).mono ?_); (case side1 => exact Kd.C_below HR0.out HB.out); (case side2 => exact HC0.out); rintro e w3 ⟨rfl, hb⟩; refine ⟨_, rfl, ?_⟩; replace HS := Z_b HS hb; replace HB := H_b HB hb; clear hb))
  go_ret
  exact ⟨rfl, HB.out⟩
 rw [if_neg c4] at h
 have cb_c4 : decide (t2 < 0) = false := decide_eq_false c4
 clear c4
 replace h := bA h; obtain ⟨t6, E5, h⟩ := h
 by_cases c8 : t6 < 0
 ·have cb_c8 : decide (t6 < 0) = true := decide_eq_true c8
  clear h
  go_enter Try.func3, Try.ntmps3
  go_wp2_with (first | ((with_reducible refine gate_callee (f := 15) rfl ?_); refine goesL_ (some 22) rfl rfl Try.func15 k_ rfl #[.slice A0 l0.length c0, .int .i64 1048576] rfl m_ ?_; (with_reducible refine (laws_szIssuerS.calls k _ _ l0 1048576 t2 _ ?side1 ?side2 E1.out).mono ?_); (case side1 => exact Kd.C_below HR0.out HB.out); (case side2 => exact HC0.out); rintro e w3 ⟨rfl, hb⟩; refine ⟨_, rfl, ?_⟩; replace HS := Z_b HS hb; replace HB := H_b HB hb; clear hb) | ((with_reducible refine gate_callee (f := 16) rfl ?_); refine goesL_ (some 27) rfl rfl Try.func16 k_ rfl #[.slice A1 l1.length c1, .int .i64 t2] rfl m_ ?_; (with_reducible refine (laws_szFactS.calls _ _ l1 t2 t6 _ ?side1 ?side2 E5.out).mono ?_); (case side1 => exact Kd.C_below HR1.out HB.out); (case side2 => exact HC1.out); rintro e w7 ⟨rfl, hd_⟩; refine ⟨_, rfl, ?_⟩; have hb := Drawn0.below hd_; clear hd_; replace HS := Z_b HS hb; replace HB := H_b HB hb; clear hb))
  go_ret
  exact ⟨rfl, HB.out⟩
 rw [if_neg c8] at h
 have cb_c8 : decide (t6 < 0) = false := decide_eq_false c8
 clear c8
 replace h := bA h; obtain ⟨t10, E9, h⟩ := h
 by_cases c12 : t10 < 0
 ·have cb_c12 : decide (t10 < 0) = true := decide_eq_true c12
  clear h
  go_enter Try.func3, Try.ntmps3
  go_wp2_with (first | ((with_reducible refine gate_callee (f := 15) rfl ?_); refine goesL_ (some 22) rfl rfl Try.func15 k_ rfl #[.slice A0 l0.length c0, .int .i64 1048576] rfl m_ ?_; (with_reducible refine (laws_szIssuerS.calls k _ _ l0 1048576 t2 _ ?side1 ?side2 E1.out).mono ?_); (case side1 => exact Kd.C_below HR0.out HB.out); (case side2 => exact HC0.out); rintro e w3 ⟨rfl, hb⟩; refine ⟨_, rfl, ?_⟩; replace HS := Z_b HS hb; replace HB := H_b HB hb; clear hb) | ((with_reducible refine gate_callee (f := 16) rfl ?_); refine goesL_ (some 27) rfl rfl Try.func16 k_ rfl #[.slice A1 l1.length c1, .int .i64 t2] rfl m_ ?_; (with_reducible refine (laws_szFactS.calls _ _ l1 t2 t6 _ ?side1 ?side2 E5.out).mono ?_); (case side1 => exact Kd.C_below HR1.out HB.out); (case side2 => exact HC1.out); rintro e w7 ⟨rfl, hd_⟩; refine ⟨_, rfl, ?_⟩; have hb := Drawn0.below hd_; clear hd_; replace HS := Z_b HS hb; replace HB := H_b HB hb; clear hb) | ((with_reducible refine gate_callee (f := 17) rfl ?_); refine goesL_ (some 32) rfl rfl Try.func17 k_ rfl #[.slice A2 l2.length c2, .int .i64 t6] rfl m_ ?_; (with_reducible refine (laws_szStatedS.calls _ _ l2 t6 t10 _ ?side1 ?side2 E9.out).mono ?_); (case side1 => exact Kd.C_below HR2.out HB.out); (case side2 => exact HC2.out); rintro e w11 ⟨rfl, hd_⟩; refine ⟨_, rfl, ?_⟩; have hb := Drawn0.below hd_; clear hd_; replace HS := Z_b HS hb; replace HB := H_b HB hb; clear hb))
  go_ret
  exact ⟨rfl, HB.out⟩
 rw [if_neg c12] at h
 have cb_c12 : decide (t10 < 0) = false := decide_eq_false c12
 clear c12
 replace h := bA h; obtain ⟨t14, E13, h⟩ := h
 replace h := bA h; obtain ⟨t20, E19, h⟩ := h
 replace h := bA h; obtain ⟨t26, E25, h⟩ := h
 replace h := bA h; obtain ⟨⟨t32, t33⟩, E31, h⟩ := h; dsimp only at h
 replace h := bA h; obtain ⟨t39, E38, h⟩ := h
 replace h := bA h; obtain ⟨t45, E44, h⟩ := h
 replace h := bA h; obtain ⟨t51, E50, h⟩ := h
 replace h := bA h; obtain ⟨⟨t57, t58⟩, E56, h⟩ := h; dsimp only at h
 replace h := bA h; obtain ⟨t64, E63, h⟩ := h
 replace h := iY h; obtain ⟨c66, h⟩ := h; subst c66
 replace h := iY h; obtain ⟨c67, h⟩ := h; subst c67
 replace h := bA h; obtain ⟨t69, E68, h⟩ := h
 replace h := bA h; obtain ⟨t75, E74, h⟩ := h
 replace h := iY h; obtain ⟨c77, h⟩ := h; subst c77
 replace h := bA h; obtain ⟨t79, E78, h⟩ := h
 replace h := bA h; obtain ⟨t85, E84, h⟩ := h
 replace h := iY h; obtain ⟨c87, h⟩ := h; subst c87
 replace h := bA h; obtain ⟨t89, E88, h⟩ := h
 replace h := bA h; obtain ⟨t95, E94, h⟩ := h
 replace h := iY h; obtain ⟨c97, h⟩ := h; subst c97
 replace h := bA h; obtain ⟨⟨t99, t100⟩, E98, h⟩ := h; dsimp only at h
 replace h := bA h; obtain ⟨⟨t103, t104⟩, E102, h⟩ := h; dsimp only at h
 replace h := bA h; obtain ⟨⟨t107, t108⟩, E106, h⟩ := h; dsimp only at h
 replace h := iN h; obtain ⟨c110, h⟩ := h
 have cb_c110 : decide (t107 < 0) = false := decide_eq_false c110
 clear c110
 replace h := bA h; obtain ⟨t112, E111, h⟩ := h
 replace h := iY h; obtain ⟨c114, h⟩ := h; subst c114
 replace h := bA h; obtain ⟨⟨t117, t118⟩, E116, h⟩ := h; dsimp only at h
 replace h := bA h; obtain ⟨t122, E121, h⟩ := h
 replace h := iN h; obtain ⟨c124, h⟩ := h
 have cb_c124 : decide (t122 < 0) = false := decide_eq_false c124
 clear c124
 replace h := iY h; obtain ⟨c125, h⟩ := h; subst c125
 replace h := bA h; obtain ⟨t127, E126, h⟩ := h
 replace h := bA h; obtain ⟨t133, E132, h⟩ := h
 replace h := bA h; obtain ⟨t139, E138, h⟩ := h
 replace h := bA h; obtain ⟨⟨t145, t146⟩, E144, h⟩ := h; dsimp only at h
 replace h := bA h; obtain ⟨t152, E151, h⟩ := h
 replace h := iY h; obtain ⟨c154, h⟩ := h; subst c154
 replace h := iY h; obtain ⟨c155, h⟩ := h; subst c155
 replace h := bA h; obtain ⟨t157, E156, h⟩ := h
 replace h := iN h; obtain ⟨c159, h⟩ := h
 have cb_c159 : decide (t157 < 0) = false := decide_eq_false c159
 clear c159
 replace h := iY h; obtain ⟨c160, h⟩ := h; subst c160
 clear h
 go_enter Try.func3, Try.ntmps3
 go_wp2_with (first | ((with_reducible refine gate_callee (f := 15) rfl ?_); refine goesL_ (some 22) rfl rfl Try.func15 k_ rfl #[.slice A0 l0.length c0, .int .i64 1048576] rfl m_ ?_; (with_reducible refine (laws_szIssuerS.calls k _ _ l0 1048576 t2 _ ?side1 ?side2 E1.out).mono ?_); (case side1 => exact Kd.C_below HR0.out HB.out); (case side2 => exact HC0.out); rintro e w3 ⟨rfl, hb⟩; refine ⟨_, rfl, ?_⟩; replace HS := Z_b HS hb; replace HB := H_b HB hb; clear hb) | ((with_reducible refine gate_callee (f := 16) rfl ?_); refine goesL_ (some 27) rfl rfl Try.func16 k_ rfl #[.slice A1 l1.length c1, .int .i64 t2] rfl m_ ?_; (with_reducible refine (laws_szFactS.calls _ _ l1 t2 t6 _ ?side1 ?side2 E5.out).mono ?_); (case side1 => exact Kd.C_below HR1.out HB.out); (case side2 => exact HC1.out); rintro e w7 ⟨rfl, hd_⟩; refine ⟨_, rfl, ?_⟩; have hb := Drawn0.below hd_; clear hd_; replace HS := Z_b HS hb; replace HB := H_b HB hb; clear hb) | ((with_reducible refine gate_callee (f := 17) rfl ?_); refine goesL_ (some 32) rfl rfl Try.func17 k_ rfl #[.slice A2 l2.length c2, .int .i64 t6] rfl m_ ?_; (with_reducible refine (laws_szStatedS.calls _ _ l2 t6 t10 _ ?side1 ?side2 E9.out).mono ?_); (case side1 => exact Kd.C_below HR2.out HB.out); (case side2 => exact HC2.out); rintro e w11 ⟨rfl, hd_⟩; refine ⟨_, rfl, ?_⟩; have hb := Drawn0.below hd_; clear hd_; replace HS := Z_b HS hb; replace HB := H_b HB hb; clear hb) | ((with_reducible refine gate_callee (f := 19) rfl ?_); refine goesL_ (some 37) rfl rfl Try.func19 k_ rfl #[.slice A0 l0.length c0] rfl m_ ?_; (with_reducible refine (laws_toIssuerS.calls k _ _ l0 t14 _ ?side1 ?side2 E13.out).mono ?_); (case side1 => exact Kd.C_below HR0.out HB.out); (case side2 => exact HC0.out); rintro e w15 ⟨v_0, rfl, ho0, hb⟩; obtain ⟨Aq16, cq16, rfl⟩ := Kd.S_slice ho0; refine ⟨_, rfl, ?_⟩; obtain ⟨Lq16, Uq16, HZ17, HZ18, HOq16⟩ := S_made ho0 HS.out hb HB.out.size; replace HS := Z_b HS hb; replace HB := H_b HB hb; replace HS := HZ18; clear ho0; clear hb) | ((with_reducible refine gate_callee (f := 20) rfl ?_); refine goesL_ (some 39) rfl rfl Try.func20 k_ rfl #[.slice A1 l1.length c1] rfl m_ ?_; (with_reducible refine (laws_toFactS.calls k _ _ l1 t20 _ ?side1 ?side2 E19.out).mono ?_); (case side1 => exact Kd.C_below HR1.out HB.out); (case side2 => exact HC1.out); rintro e w21 ⟨v_0, rfl, ho0, hb⟩; obtain ⟨Aq22, cq22, rfl⟩ := Kd.R_slice ho0; refine ⟨_, rfl, ?_⟩; obtain ⟨Lq22, Uq22, HZ23, HZ24, HOq22⟩ := R_made ho0 HS.out hb HB.out.size; replace HOq16 := S_b HOq16 hb; replace HS := Z_b HS hb; replace HB := H_b HB hb; replace HS := HZ24; clear ho0; clear hb) | ((with_reducible refine gate_callee (f := 21) rfl ?_); refine goesL_ (some 41) rfl rfl Try.func21 k_ rfl #[.slice A2 l2.length c2] rfl m_ ?_; (with_reducible refine (laws_toStatedS.calls k _ _ l2 t26 _ ?side1 ?side2 E25.out).mono ?_); (case side1 => exact Kd.C_below HR2.out HB.out); (case side2 => exact HC2.out); rintro e w27 ⟨v_0, rfl, ho0, hb⟩; obtain ⟨Aq28, cq28, rfl⟩ := Kd.R_slice ho0; refine ⟨_, rfl, ?_⟩; obtain ⟨Lq28, Uq28, HZ29, HZ30, HOq28⟩ := R_made ho0 HS.out hb HB.out.size; replace HOq16 := S_b HOq16 hb; replace HOq22 := R_b HOq22 hb; replace HS := Z_b HS hb; replace HB := H_b HB hb; replace HS := HZ30; clear ho0; clear hb) | ((with_reducible refine gate_callee (f := 18) rfl ?_); refine goesL_ (some 42) rfl rfl Try.func18 k_ rfl #[.slice Aq16 t14.length cq16, .slice Aq22 t20.length cq22, .slice Aq28 t26.length cq28] rfl m_ ?_; (with_reducible refine (spec_TakeStated.calls k _ _ t14 _ _ t20 _ _ t26 t32 t33 _ ?side1 ?side2 ?side3 ?side4 ?side5 ?side6 E31.out).mono ?_); (case side1 => exact (Kd.S_reads' HOq16.out).2.2); (case side2 => exact (Kd.S_reads' HOq16.out).2.1); (case side3 => exact (Kd.R_reads' HOq22.out).2.2); (case side4 => exact (Kd.R_reads' HOq22.out).2.1); (case side5 => exact (Kd.R_reads' HOq28.out).2.2); (case side6 => exact (Kd.R_reads' HOq28.out).2.1); rintro e w34 ⟨v_0, rfl, ho0, hb⟩; obtain ⟨Aq35, cq35, rfl⟩ := Kd.R_slice ho0; refine ⟨_, rfl, ?_⟩; obtain ⟨Lq35, Uq35, HZ36, HZ37, HOq35⟩ := R_made ho0 HS.out hb HB.out.size; replace HOq16 := S_b HOq16 hb; replace HOq22 := R_b HOq22 hb; replace HOq28 := R_b HOq28 hb; replace HS := Z_b HS hb; replace HB := H_b HB hb; replace HS := HZ37; clear ho0; clear hb) | ((with_reducible refine gate_callee (f := 19) rfl ?_); refine goesL_ (some 46) rfl rfl Try.func19 k_ rfl #[.slice A0 l0.length c0] rfl m_ ?_; (with_reducible refine (laws_toIssuerS.calls k _ _ l0 t39 _ ?side1 ?side2 E38.out).mono ?_); (case side1 => exact Kd.C_below HR0.out HB.out); (case side2 => exact HC0.out); rintro e w40 ⟨v_0, rfl, ho0, hb⟩; obtain ⟨Aq41, cq41, rfl⟩ := Kd.S_slice ho0; refine ⟨_, rfl, ?_⟩; obtain ⟨Lq41, Uq41, HZ42, HZ43, HOq41⟩ := S_made ho0 HS.out hb HB.out.size; replace HOq16 := S_b HOq16 hb; replace HOq22 := R_b HOq22 hb; replace HOq28 := R_b HOq28 hb; replace HOq35 := R_b HOq35 hb; replace HS := Z_b HS hb; replace HB := H_b HB hb; replace HS := HZ43; clear ho0; clear hb) | ((with_reducible refine gate_callee (f := 20) rfl ?_); refine goesL_ (some 48) rfl rfl Try.func20 k_ rfl #[.slice A1 l1.length c1] rfl m_ ?_; (with_reducible refine (laws_toFactS.calls k _ _ l1 t45 _ ?side1 ?side2 E44.out).mono ?_); (case side1 => exact Kd.C_below HR1.out HB.out); (case side2 => exact HC1.out); rintro e w46 ⟨v_0, rfl, ho0, hb⟩; obtain ⟨Aq47, cq47, rfl⟩ := Kd.R_slice ho0; refine ⟨_, rfl, ?_⟩; obtain ⟨Lq47, Uq47, HZ48, HZ49, HOq47⟩ := R_made ho0 HS.out hb HB.out.size; replace HOq16 := S_b HOq16 hb; replace HOq22 := R_b HOq22 hb; replace HOq28 := R_b HOq28 hb; replace HOq35 := R_b HOq35 hb; replace HOq41 := S_b HOq41 hb; replace HS := Z_b HS hb; replace HB := H_b HB hb; replace HS := HZ49; clear ho0; clear hb) | ((with_reducible refine gate_callee (f := 21) rfl ?_); refine goesL_ (some 50) rfl rfl Try.func21 k_ rfl #[.slice A2 l2.length c2] rfl m_ ?_; (with_reducible refine (laws_toStatedS.calls k _ _ l2 t51 _ ?side1 ?side2 E50.out).mono ?_); (case side1 => exact Kd.C_below HR2.out HB.out); (case side2 => exact HC2.out); rintro e w52 ⟨v_0, rfl, ho0, hb⟩; obtain ⟨Aq53, cq53, rfl⟩ := Kd.R_slice ho0; refine ⟨_, rfl, ?_⟩; obtain ⟨Lq53, Uq53, HZ54, HZ55, HOq53⟩ := R_made ho0 HS.out hb HB.out.size; replace HOq16 := S_b HOq16 hb; replace HOq22 := R_b HOq22 hb; replace HOq28 := R_b HOq28 hb; replace HOq35 := R_b HOq35 hb; replace HOq41 := S_b HOq41 hb; replace HOq47 := R_b HOq47 hb; replace HS := Z_b HS hb; replace HB := H_b HB hb; replace HS := HZ55; clear ho0; clear hb) | ((with_reducible refine gate_callee (f := 22) rfl ?_); refine goesL_ (some 55) rfl rfl Try.func22 k_ rfl #[.slice Aq41 t39.length cq41, .slice Aq47 t45.length cq47, .slice Aq53 t51.length cq53] rfl m_ ?_; (with_reducible refine (impl_TakeStated.calls k _ _ t39 _ _ t45 _ _ t51 t57 t33 _ ?side1 ?side2 ?side3 ?side4 ?side5 ?side6 E56.out).mono ?_); (case side1 => exact (Kd.S_reads' HOq41.out).2.2); (case side2 => exact (Kd.S_reads' HOq41.out).2.1); (case side3 => exact (Kd.R_reads' HOq47.out).2.2); (case side4 => exact (Kd.R_reads' HOq47.out).2.1); (case side5 => exact (Kd.R_reads' HOq53.out).2.2); (case side6 => exact (Kd.R_reads' HOq53.out).2.1); rintro e w59 ⟨v_0, rfl, ho0, hb⟩; obtain ⟨Aq60, cq60, rfl⟩ := Kd.R_slice ho0; refine ⟨_, rfl, ?_⟩; obtain ⟨Lq60, Uq60, HZ61, HZ62, HOq60⟩ := R_made ho0 HS.out hb HB.out.size; replace HOq16 := S_b HOq16 hb; replace HOq22 := R_b HOq22 hb; replace HOq28 := R_b HOq28 hb; replace HOq35 := R_b HOq35 hb; replace HOq41 := S_b HOq41 hb; replace HOq47 := R_b HOq47 hb; replace HOq53 := R_b HOq53 hb; replace HS := Z_b HS hb; replace HB := H_b HB hb; replace HS := HZ62; clear ho0; clear hb) | ((with_reducible refine gate_callee (f := 23) rfl ?_); refine goesL_ (some 60) rfl rfl Try.func23 k_ rfl #[.slice Aq60 t57.length cq60, .slice Aq35 t32.length cq35] rfl m_ ?_; (with_reducible refine (laws_eqFactS.calls k _ _ t57 _ _ t32 true _ ?side1 ?side2 ?side3 ?side4 E63.out).mono ?_); (case side1 => exact (Kd.R_reads' HOq60.out).2.2); (case side2 => exact (Kd.R_reads' HOq60.out).2.1); (case side3 => exact (Kd.R_reads' HOq35.out).2.2); (case side4 => exact (Kd.R_reads' HOq35.out).2.1); rintro e w65 ⟨rfl, hb⟩; refine ⟨_, rfl, ?_⟩; replace HOq16 := S_b HOq16 hb; replace HOq22 := R_b HOq22 hb; replace HOq28 := R_b HOq28 hb; replace HOq35 := R_b HOq35 hb; replace HOq41 := S_b HOq41 hb; replace HOq47 := R_b HOq47 hb; replace HOq53 := R_b HOq53 hb; replace HOq60 := R_b HOq60 hb; replace HS := Z_b HS hb; replace HB := H_b HB hb; clear hb) | ((with_reducible refine gate_callee (f := 19) rfl ?_); refine goesL_ (some 69) rfl rfl Try.func19 k_ rfl #[.slice A0 l0.length c0] rfl m_ ?_; (with_reducible refine (laws_toIssuerS.calls k _ _ l0 t69 _ ?side1 ?side2 E68.out).mono ?_); (case side1 => exact Kd.C_below HR0.out HB.out); (case side2 => exact HC0.out); rintro e w70 ⟨v_0, rfl, ho0, hb⟩; obtain ⟨Aq71, cq71, rfl⟩ := Kd.S_slice ho0; refine ⟨_, rfl, ?_⟩; obtain ⟨Lq71, Uq71, HZ72, HZ73, HOq71⟩ := S_made ho0 HS.out hb HB.out.size; replace HOq16 := S_b HOq16 hb; replace HOq22 := R_b HOq22 hb; replace HOq28 := R_b HOq28 hb; replace HOq35 := R_b HOq35 hb; replace HOq41 := S_b HOq41 hb; replace HOq47 := R_b HOq47 hb; replace HOq53 := R_b HOq53 hb; replace HOq60 := R_b HOq60 hb; replace HS := Z_b HS hb; replace HB := H_b HB hb; replace HS := HZ73; clear ho0; clear hb) | ((with_reducible refine gate_callee (f := 24) rfl ?_); refine goesL_ (some 70) rfl rfl Try.func24 k_ rfl #[.slice Aq41 t39.length cq41, .slice Aq71 t69.length cq71] rfl m_ ?_; (with_reducible refine (laws_eqIssuerS.calls k _ _ t39 _ _ t69 true _ ?side1 ?side2 ?side3 ?side4 E74.out).mono ?_); (case side1 => exact (Kd.S_reads' HOq41.out).2.2); (case side2 => exact (Kd.S_reads' HOq41.out).2.1); (case side3 => exact (Kd.S_reads' HOq71.out).2.2); (case side4 => exact (Kd.S_reads' HOq71.out).2.1); rintro e w76 ⟨rfl, hb⟩; refine ⟨_, rfl, ?_⟩; replace HOq16 := S_b HOq16 hb; replace HOq22 := R_b HOq22 hb; replace HOq28 := R_b HOq28 hb; replace HOq35 := R_b HOq35 hb; replace HOq41 := S_b HOq41 hb; replace HOq47 := R_b HOq47 hb; replace HOq53 := R_b HOq53 hb; replace HOq60 := R_b HOq60 hb; replace HOq71 := S_b HOq71 hb; replace HS := Z_b HS hb; replace HB := H_b HB hb; clear hb) | ((with_reducible refine gate_callee (f := 20) rfl ?_); refine goesL_ (some 74) rfl rfl Try.func20 k_ rfl #[.slice A1 l1.length c1] rfl m_ ?_; (with_reducible refine (laws_toFactS.calls k _ _ l1 t79 _ ?side1 ?side2 E78.out).mono ?_); (case side1 => exact Kd.C_below HR1.out HB.out); (case side2 => exact HC1.out); rintro e w80 ⟨v_0, rfl, ho0, hb⟩; obtain ⟨Aq81, cq81, rfl⟩ := Kd.R_slice ho0; refine ⟨_, rfl, ?_⟩; obtain ⟨Lq81, Uq81, HZ82, HZ83, HOq81⟩ := R_made ho0 HS.out hb HB.out.size; replace HOq16 := S_b HOq16 hb; replace HOq22 := R_b HOq22 hb; replace HOq28 := R_b HOq28 hb; replace HOq35 := R_b HOq35 hb; replace HOq41 := S_b HOq41 hb; replace HOq47 := R_b HOq47 hb; replace HOq53 := R_b HOq53 hb; replace HOq60 := R_b HOq60 hb; replace HOq71 := S_b HOq71 hb; replace HS := Z_b HS hb; replace HB := H_b HB hb; replace HS := HZ83; clear ho0; clear hb) | ((with_reducible refine gate_callee (f := 23) rfl ?_); refine goesL_ (some 75) rfl rfl Try.func23 k_ rfl #[.slice Aq47 t45.length cq47, .slice Aq81 t79.length cq81] rfl m_ ?_; (with_reducible refine (laws_eqFactS.calls k _ _ t45 _ _ t79 true _ ?side1 ?side2 ?side3 ?side4 E84.out).mono ?_); (case side1 => exact (Kd.R_reads' HOq47.out).2.2); (case side2 => exact (Kd.R_reads' HOq47.out).2.1); (case side3 => exact (Kd.R_reads' HOq81.out).2.2); (case side4 => exact (Kd.R_reads' HOq81.out).2.1); rintro e w86 ⟨rfl, hb⟩; refine ⟨_, rfl, ?_⟩; replace HOq16 := S_b HOq16 hb; replace HOq22 := R_b HOq22 hb; replace HOq28 := R_b HOq28 hb; replace HOq35 := R_b HOq35 hb; replace HOq41 := S_b HOq41 hb; replace HOq47 := R_b HOq47 hb; replace HOq53 := R_b HOq53 hb; replace HOq60 := R_b HOq60 hb; replace HOq71 := S_b HOq71 hb; replace HOq81 := R_b HOq81 hb; replace HS := Z_b HS hb; replace HB := H_b HB hb; clear hb) | ((with_reducible refine gate_callee (f := 21) rfl ?_); refine goesL_ (some 79) rfl rfl Try.func21 k_ rfl #[.slice A2 l2.length c2] rfl m_ ?_; (with_reducible refine (laws_toStatedS.calls k _ _ l2 t89 _ ?side1 ?side2 E88.out).mono ?_); (case side1 => exact Kd.C_below HR2.out HB.out); (case side2 => exact HC2.out); rintro e w90 ⟨v_0, rfl, ho0, hb⟩; obtain ⟨Aq91, cq91, rfl⟩ := Kd.R_slice ho0; refine ⟨_, rfl, ?_⟩; obtain ⟨Lq91, Uq91, HZ92, HZ93, HOq91⟩ := R_made ho0 HS.out hb HB.out.size; replace HOq16 := S_b HOq16 hb; replace HOq22 := R_b HOq22 hb; replace HOq28 := R_b HOq28 hb; replace HOq35 := R_b HOq35 hb; replace HOq41 := S_b HOq41 hb; replace HOq47 := R_b HOq47 hb; replace HOq53 := R_b HOq53 hb; replace HOq60 := R_b HOq60 hb; replace HOq71 := S_b HOq71 hb; replace HOq81 := R_b HOq81 hb; replace HS := Z_b HS hb; replace HB := H_b HB hb; replace HS := HZ93; clear ho0; clear hb) | ((with_reducible refine gate_callee (f := 25) rfl ?_); refine goesL_ (some 80) rfl rfl Try.func25 k_ rfl #[.slice Aq53 t51.length cq53, .slice Aq91 t89.length cq91] rfl m_ ?_; (with_reducible refine (laws_eqStatedS.calls k _ _ t51 _ _ t89 true _ ?side1 ?side2 ?side3 ?side4 E94.out).mono ?_); (case side1 => exact (Kd.R_reads' HOq53.out).2.2); (case side2 => exact (Kd.R_reads' HOq53.out).2.1); (case side3 => exact (Kd.R_reads' HOq91.out).2.2); (case side4 => exact (Kd.R_reads' HOq91.out).2.1); rintro e w96 ⟨rfl, hb⟩; refine ⟨_, rfl, ?_⟩; replace HOq16 := S_b HOq16 hb; replace HOq22 := R_b HOq22 hb; replace HOq28 := R_b HOq28 hb; replace HOq35 := R_b HOq35 hb; replace HOq41 := S_b HOq41 hb; replace HOq47 := R_b HOq47 hb; replace HOq53 := R_b HOq53 hb; replace HOq60 := R_b HOq60 hb; replace HOq71 := S_b HOq71 hb; replace HOq81 := R_b HOq81 hb; replace HOq91 := R_b HOq91 hb; replace HS := Z_b HS hb; replace HB := H_b HB hb; clear hb) | ((with_reducible refine gate_callee (f := 26) rfl ?_); refine goesL_ (some 84) rfl rfl Try.func26 k_ rfl #[.slice Aq41 t39.length cq41, .int .i64 1] rfl m_ ?_; (with_reducible refine (laws_markIssuerS.calls k (fun x => Lq41 ≤ x ∧ x < Uq41) (.slice Aq41 t39.length cq41) t39 1 t99 t100 w _ ?side1 ?side2 E98.out).mono ?_); (case side1 => exact HB.out); (case side2 => exact HOq41.out); rintro e w101 ⟨rfl, hy_, hb_, hk⟩; refine ⟨_, rfl, ?_⟩; replace HOq16 := S_k HOq16 hk (fun x h1 h2 => (by have := HZ17.out; have := HZ23.out; have := HZ29.out; have := HZ36.out; have := HZ42.out; have := HZ48.out; have := HZ54.out; have := HZ61.out; have := HZ72.out; have := HZ82.out; have := HZ92.out; have h3_ : Lq16 ≤ x ∧ x < Uq16 := h1; have h4_ : Lq41 ≤ x ∧ x < Uq41 := h2; omega)); replace HOq22 := R_k HOq22 hk (fun x h1 h2 => (by have := HZ17.out; have := HZ23.out; have := HZ29.out; have := HZ36.out; have := HZ42.out; have := HZ48.out; have := HZ54.out; have := HZ61.out; have := HZ72.out; have := HZ82.out; have := HZ92.out; have h3_ : Lq22 ≤ x ∧ x < Uq22 := h1; have h4_ : Lq41 ≤ x ∧ x < Uq41 := h2; omega)); replace HOq28 := R_k HOq28 hk (fun x h1 h2 => (by have := HZ17.out; have := HZ23.out; have := HZ29.out; have := HZ36.out; have := HZ42.out; have := HZ48.out; have := HZ54.out; have := HZ61.out; have := HZ72.out; have := HZ82.out; have := HZ92.out; have h3_ : Lq28 ≤ x ∧ x < Uq28 := h1; have h4_ : Lq41 ≤ x ∧ x < Uq41 := h2; omega)); replace HOq35 := R_k HOq35 hk (fun x h1 h2 => (by have := HZ17.out; have := HZ23.out; have := HZ29.out; have := HZ36.out; have := HZ42.out; have := HZ48.out; have := HZ54.out; have := HZ61.out; have := HZ72.out; have := HZ82.out; have := HZ92.out; have h3_ : Lq35 ≤ x ∧ x < Uq35 := h1; have h4_ : Lq41 ≤ x ∧ x < Uq41 := h2; omega)); replace HOq47 := R_k HOq47 hk (fun x h1 h2 => (by have := HZ17.out; have := HZ23.out; have := HZ29.out; have := HZ36.out; have := HZ42.out; have := HZ48.out; have := HZ54.out; have := HZ61.out; have := HZ72.out; have := HZ82.out; have := HZ92.out; have h3_ : Lq47 ≤ x ∧ x < Uq47 := h1; have h4_ : Lq41 ≤ x ∧ x < Uq41 := h2; omega)); replace HOq53 := R_k HOq53 hk (fun x h1 h2 => (by have := HZ17.out; have := HZ23.out; have := HZ29.out; have := HZ36.out; have := HZ42.out; have := HZ48.out; have := HZ54.out; have := HZ61.out; have := HZ72.out; have := HZ82.out; have := HZ92.out; have h3_ : Lq53 ≤ x ∧ x < Uq53 := h1; have h4_ : Lq41 ≤ x ∧ x < Uq41 := h2; omega)); replace HOq60 := R_k HOq60 hk (fun x h1 h2 => (by have := HZ17.out; have := HZ23.out; have := HZ29.out; have := HZ36.out; have := HZ42.out; have := HZ48.out; have := HZ54.out; have := HZ61.out; have := HZ72.out; have := HZ82.out; have := HZ92.out; have h3_ : Lq60 ≤ x ∧ x < Uq60 := h1; have h4_ : Lq41 ≤ x ∧ x < Uq41 := h2; omega)); replace HOq71 := S_k HOq71 hk (fun x h1 h2 => (by have := HZ17.out; have := HZ23.out; have := HZ29.out; have := HZ36.out; have := HZ42.out; have := HZ48.out; have := HZ54.out; have := HZ61.out; have := HZ72.out; have := HZ82.out; have := HZ92.out; have h3_ : Lq71 ≤ x ∧ x < Uq71 := h1; have h4_ : Lq41 ≤ x ∧ x < Uq41 := h2; omega)); replace HOq81 := R_k HOq81 hk (fun x h1 h2 => (by have := HZ17.out; have := HZ23.out; have := HZ29.out; have := HZ36.out; have := HZ42.out; have := HZ48.out; have := HZ54.out; have := HZ61.out; have := HZ72.out; have := HZ82.out; have := HZ92.out; have h3_ : Lq81 ≤ x ∧ x < Uq81 := h1; have h4_ : Lq41 ≤ x ∧ x < Uq41 := h2; omega)); replace HOq91 := R_k HOq91 hk (fun x h1 h2 => (by have := HZ17.out; have := HZ23.out; have := HZ29.out; have := HZ36.out; have := HZ42.out; have := HZ48.out; have := HZ54.out; have := HZ61.out; have := HZ72.out; have := HZ82.out; have := HZ92.out; have h3_ : Lq91 ≤ x ∧ x < Uq91 := h1; have h4_ : Lq41 ≤ x ∧ x < Uq41 := h2; omega)); replace HS := Z_k HS hk; replace HB := Aside0.mk hb_; clear HOq41; (try clear hk hb_); (try clear hy_)) | ((with_reducible refine gate_callee (f := 27) rfl ?_); refine goesL_ (some 87) rfl rfl Try.func27 k_ rfl #[.slice Aq47 t45.length cq47, .int .i64 t99] rfl m_ ?_; (with_reducible refine (laws_markFactS.calls k (fun x => Lq47 ≤ x ∧ x < Uq47) (.slice Aq47 t45.length cq47) t45 t99 t103 t104 w _ ?side1 ?side2 E102.out).mono ?_); (case side1 => exact HB.out); (case side2 => exact HOq47.out); rintro e w105 ⟨rfl, hy_, hb_, hk⟩; refine ⟨_, rfl, ?_⟩; replace HOq16 := S_k HOq16 hk (fun x h1 h2 => (by have := HZ17.out; have := HZ23.out; have := HZ29.out; have := HZ36.out; have := HZ42.out; have := HZ48.out; have := HZ54.out; have := HZ61.out; have := HZ72.out; have := HZ82.out; have := HZ92.out; have h3_ : Lq16 ≤ x ∧ x < Uq16 := h1; have h4_ : Lq47 ≤ x ∧ x < Uq47 := h2; omega)); replace HOq22 := R_k HOq22 hk (fun x h1 h2 => (by have := HZ17.out; have := HZ23.out; have := HZ29.out; have := HZ36.out; have := HZ42.out; have := HZ48.out; have := HZ54.out; have := HZ61.out; have := HZ72.out; have := HZ82.out; have := HZ92.out; have h3_ : Lq22 ≤ x ∧ x < Uq22 := h1; have h4_ : Lq47 ≤ x ∧ x < Uq47 := h2; omega)); replace HOq28 := R_k HOq28 hk (fun x h1 h2 => (by have := HZ17.out; have := HZ23.out; have := HZ29.out; have := HZ36.out; have := HZ42.out; have := HZ48.out; have := HZ54.out; have := HZ61.out; have := HZ72.out; have := HZ82.out; have := HZ92.out; have h3_ : Lq28 ≤ x ∧ x < Uq28 := h1; have h4_ : Lq47 ≤ x ∧ x < Uq47 := h2; omega)); replace HOq35 := R_k HOq35 hk (fun x h1 h2 => (by have := HZ17.out; have := HZ23.out; have := HZ29.out; have := HZ36.out; have := HZ42.out; have := HZ48.out; have := HZ54.out; have := HZ61.out; have := HZ72.out; have := HZ82.out; have := HZ92.out; have h3_ : Lq35 ≤ x ∧ x < Uq35 := h1; have h4_ : Lq47 ≤ x ∧ x < Uq47 := h2; omega)); replace HOq53 := R_k HOq53 hk (fun x h1 h2 => (by have := HZ17.out; have := HZ23.out; have := HZ29.out; have := HZ36.out; have := HZ42.out; have := HZ48.out; have := HZ54.out; have := HZ61.out; have := HZ72.out; have := HZ82.out; have := HZ92.out; have h3_ : Lq53 ≤ x ∧ x < Uq53 := h1; have h4_ : Lq47 ≤ x ∧ x < Uq47 := h2; omega)); replace HOq60 := R_k HOq60 hk (fun x h1 h2 => (by have := HZ17.out; have := HZ23.out; have := HZ29.out; have := HZ36.out; have := HZ42.out; have := HZ48.out; have := HZ54.out; have := HZ61.out; have := HZ72.out; have := HZ82.out; have := HZ92.out; have h3_ : Lq60 ≤ x ∧ x < Uq60 := h1; have h4_ : Lq47 ≤ x ∧ x < Uq47 := h2; omega)); replace HOq71 := S_k HOq71 hk (fun x h1 h2 => (by have := HZ17.out; have := HZ23.out; have := HZ29.out; have := HZ36.out; have := HZ42.out; have := HZ48.out; have := HZ54.out; have := HZ61.out; have := HZ72.out; have := HZ82.out; have := HZ92.out; have h3_ : Lq71 ≤ x ∧ x < Uq71 := h1; have h4_ : Lq47 ≤ x ∧ x < Uq47 := h2; omega)); replace HOq81 := R_k HOq81 hk (fun x h1 h2 => (by have := HZ17.out; have := HZ23.out; have := HZ29.out; have := HZ36.out; have := HZ42.out; have := HZ48.out; have := HZ54.out; have := HZ61.out; have := HZ72.out; have := HZ82.out; have := HZ92.out; have h3_ : Lq81 ≤ x ∧ x < Uq81 := h1; have h4_ : Lq47 ≤ x ∧ x < Uq47 := h2; omega)); replace HOq91 := R_k HOq91 hk (fun x h1 h2 => (by have := HZ17.out; have := HZ23.out; have := HZ29.out; have := HZ36.out; have := HZ42.out; have := HZ48.out; have := HZ54.out; have := HZ61.out; have := HZ72.out; have := HZ82.out; have := HZ92.out; have h3_ : Lq91 ≤ x ∧ x < Uq91 := h1; have h4_ : Lq47 ≤ x ∧ x < Uq47 := h2; omega)); replace HS := Z_k HS hk; replace HB := Aside0.mk hb_; clear HOq47; (try clear hk hb_); (try clear hy_)) | ((with_reducible refine gate_callee (f := 28) rfl ?_); refine goesL_ (some 90) rfl rfl Try.func28 k_ rfl #[.slice Aq53 t51.length cq53, .int .i64 t103] rfl m_ ?_; (with_reducible refine (laws_markStatedS.calls (fun x => Lq53 ≤ x ∧ x < Uq53) (.slice Aq53 t51.length cq53) t51 t103 t107 t108 w _ ?side1 ?side2 E106.out).mono ?_); (case side1 => exact HB.out); (case side2 => exact HOq53.out); rintro e w109 ⟨rfl, hy_, hb_, hk⟩; refine ⟨_, rfl, ?_⟩; replace HOq16 := S_k HOq16 hk (fun x h1 h2 => (by have := HZ17.out; have := HZ23.out; have := HZ29.out; have := HZ36.out; have := HZ42.out; have := HZ48.out; have := HZ54.out; have := HZ61.out; have := HZ72.out; have := HZ82.out; have := HZ92.out; have h3_ : Lq16 ≤ x ∧ x < Uq16 := h1; have h4_ : Lq53 ≤ x ∧ x < Uq53 := h2; omega)); replace HOq22 := R_k HOq22 hk (fun x h1 h2 => (by have := HZ17.out; have := HZ23.out; have := HZ29.out; have := HZ36.out; have := HZ42.out; have := HZ48.out; have := HZ54.out; have := HZ61.out; have := HZ72.out; have := HZ82.out; have := HZ92.out; have h3_ : Lq22 ≤ x ∧ x < Uq22 := h1; have h4_ : Lq53 ≤ x ∧ x < Uq53 := h2; omega)); replace HOq28 := R_k HOq28 hk (fun x h1 h2 => (by have := HZ17.out; have := HZ23.out; have := HZ29.out; have := HZ36.out; have := HZ42.out; have := HZ48.out; have := HZ54.out; have := HZ61.out; have := HZ72.out; have := HZ82.out; have := HZ92.out; have h3_ : Lq28 ≤ x ∧ x < Uq28 := h1; have h4_ : Lq53 ≤ x ∧ x < Uq53 := h2; omega)); replace HOq35 := R_k HOq35 hk (fun x h1 h2 => (by have := HZ17.out; have := HZ23.out; have := HZ29.out; have := HZ36.out; have := HZ42.out; have := HZ48.out; have := HZ54.out; have := HZ61.out; have := HZ72.out; have := HZ82.out; have := HZ92.out; have h3_ : Lq35 ≤ x ∧ x < Uq35 := h1; have h4_ : Lq53 ≤ x ∧ x < Uq53 := h2; omega)); replace HOq60 := R_k HOq60 hk (fun x h1 h2 => (by have := HZ17.out; have := HZ23.out; have := HZ29.out; have := HZ36.out; have := HZ42.out; have := HZ48.out; have := HZ54.out; have := HZ61.out; have := HZ72.out; have := HZ82.out; have := HZ92.out; have h3_ : Lq60 ≤ x ∧ x < Uq60 := h1; have h4_ : Lq53 ≤ x ∧ x < Uq53 := h2; omega)); replace HOq71 := S_k HOq71 hk (fun x h1 h2 => (by have := HZ17.out; have := HZ23.out; have := HZ29.out; have := HZ36.out; have := HZ42.out; have := HZ48.out; have := HZ54.out; have := HZ61.out; have := HZ72.out; have := HZ82.out; have := HZ92.out; have h3_ : Lq71 ≤ x ∧ x < Uq71 := h1; have h4_ : Lq53 ≤ x ∧ x < Uq53 := h2; omega)); replace HOq81 := R_k HOq81 hk (fun x h1 h2 => (by have := HZ17.out; have := HZ23.out; have := HZ29.out; have := HZ36.out; have := HZ42.out; have := HZ48.out; have := HZ54.out; have := HZ61.out; have := HZ72.out; have := HZ82.out; have := HZ92.out; have h3_ : Lq81 ≤ x ∧ x < Uq81 := h1; have h4_ : Lq53 ≤ x ∧ x < Uq53 := h2; omega)); replace HOq91 := R_k HOq91 hk (fun x h1 h2 => (by have := HZ17.out; have := HZ23.out; have := HZ29.out; have := HZ36.out; have := HZ42.out; have := HZ48.out; have := HZ54.out; have := HZ61.out; have := HZ72.out; have := HZ82.out; have := HZ92.out; have h3_ : Lq91 ≤ x ∧ x < Uq91 := h1; have h4_ : Lq53 ≤ x ∧ x < Uq53 := h2; omega)); replace HS := Z_k HS hk; replace HB := Aside0.mk hb_; clear HOq53; (try clear hk hb_); (try clear hy_)) | (go_at_call 23; (with_reducible refine (laws_eqFactS.calls k _ _ t57 _ _ t32 true _ ?side1 ?side2 ?side3 ?side4 E111.out).mono ?_); (case side1 => exact (Kd.R_reads' HOq60.out).2.2); (case side2 => exact (Kd.R_reads' HOq60.out).2.1); (case side3 => exact (Kd.R_reads' HOq35.out).2.2); (case side4 => exact (Kd.R_reads' HOq35.out).2.1); rintro e w113 ⟨rfl, hb⟩; replace HOq16 := S_b HOq16 hb; replace HOq22 := R_b HOq22 hb; replace HOq28 := R_b HOq28 hb; replace HOq35 := R_b HOq35 hb; replace HOq60 := R_b HOq60 hb; replace HOq71 := S_b HOq71 hb; replace HOq81 := R_b HOq81 hb; replace HOq91 := R_b HOq91 hb; replace HS := Z_b HS hb; replace HB := H_b HB hb; clear hb) | ((with_reducible refine gate_callee (f := 27) rfl ?_); refine goesL_ (some 106) rfl rfl Try.func27 k_ rfl #[.slice Aq60 t57.length cq60, .int .i64 1] rfl m_ ?_; (with_reducible refine (laws_markFactS.calls k (fun x => Lq60 ≤ x ∧ x < Uq60) (.slice Aq60 t57.length cq60) t57 1 t117 t118 w _ ?side1 ?side2 E116.out).mono ?_); (case side1 => exact HB.out); (case side2 => exact HOq60.out); rintro e w119 ⟨rfl, hy_, hb_, hk⟩; refine ⟨_, rfl, ?_⟩; replace HOq16 := S_k HOq16 hk (fun x h1 h2 => (by have := HZ17.out; have := HZ23.out; have := HZ29.out; have := HZ36.out; have := HZ42.out; have := HZ48.out; have := HZ54.out; have := HZ61.out; have := HZ72.out; have := HZ82.out; have := HZ92.out; have h3_ : Lq16 ≤ x ∧ x < Uq16 := h1; have h4_ : Lq60 ≤ x ∧ x < Uq60 := h2; omega)); replace HOq22 := R_k HOq22 hk (fun x h1 h2 => (by have := HZ17.out; have := HZ23.out; have := HZ29.out; have := HZ36.out; have := HZ42.out; have := HZ48.out; have := HZ54.out; have := HZ61.out; have := HZ72.out; have := HZ82.out; have := HZ92.out; have h3_ : Lq22 ≤ x ∧ x < Uq22 := h1; have h4_ : Lq60 ≤ x ∧ x < Uq60 := h2; omega)); replace HOq28 := R_k HOq28 hk (fun x h1 h2 => (by have := HZ17.out; have := HZ23.out; have := HZ29.out; have := HZ36.out; have := HZ42.out; have := HZ48.out; have := HZ54.out; have := HZ61.out; have := HZ72.out; have := HZ82.out; have := HZ92.out; have h3_ : Lq28 ≤ x ∧ x < Uq28 := h1; have h4_ : Lq60 ≤ x ∧ x < Uq60 := h2; omega)); replace HOq35 := R_k HOq35 hk (fun x h1 h2 => (by have := HZ17.out; have := HZ23.out; have := HZ29.out; have := HZ36.out; have := HZ42.out; have := HZ48.out; have := HZ54.out; have := HZ61.out; have := HZ72.out; have := HZ82.out; have := HZ92.out; have h3_ : Lq35 ≤ x ∧ x < Uq35 := h1; have h4_ : Lq60 ≤ x ∧ x < Uq60 := h2; omega)); replace HOq71 := S_k HOq71 hk (fun x h1 h2 => (by have := HZ17.out; have := HZ23.out; have := HZ29.out; have := HZ36.out; have := HZ42.out; have := HZ48.out; have := HZ54.out; have := HZ61.out; have := HZ72.out; have := HZ82.out; have := HZ92.out; have h3_ : Lq71 ≤ x ∧ x < Uq71 := h1; have h4_ : Lq60 ≤ x ∧ x < Uq60 := h2; omega)); replace HOq81 := R_k HOq81 hk (fun x h1 h2 => (by have := HZ17.out; have := HZ23.out; have := HZ29.out; have := HZ36.out; have := HZ42.out; have := HZ48.out; have := HZ54.out; have := HZ61.out; have := HZ72.out; have := HZ82.out; have := HZ92.out; have h3_ : Lq81 ≤ x ∧ x < Uq81 := h1; have h4_ : Lq60 ≤ x ∧ x < Uq60 := h2; omega)); replace HOq91 := R_k HOq91 hk (fun x h1 h2 => (by have := HZ17.out; have := HZ23.out; have := HZ29.out; have := HZ36.out; have := HZ42.out; have := HZ48.out; have := HZ54.out; have := HZ61.out; have := HZ72.out; have := HZ82.out; have := HZ92.out; have h3_ : Lq91 ≤ x ∧ x < Uq91 := h1; have h4_ : Lq60 ≤ x ∧ x < Uq60 := h2; omega)); replace HS := Z_k HS hk; replace HB := Aside0.mk hb_; have HLN120 : Aside0 (t57.length = t118.length) := ⟨(Kd.R_reads' hy_).1⟩; replace HOq60 := Aside0.mk hy_; (try clear hk hb_); (try clear hy_)) | ((with_reducible refine gate_callee (f := 29) rfl ?_); refine goesL_ (some 109) rfl rfl Try.func29 k_ rfl #[.slice Aq60 t57.length cq60, .int .i64 1] rfl m_ ?_; rw [HLN120.out]; (with_reducible refine (laws_heldFactS.calls k _ _ t118 1 t117 _ ?side1 ?side2 E121.out).mono ?_); (case side1 => exact (Kd.R_reads' HOq60.out).2.2); (case side2 => (have h1_ := (Kd.R_reads' HOq60.out).2.1; have h2_ := HLN120.out; omega)); rintro e w123 ⟨rfl, hd_⟩; refine ⟨_, rfl, ?_⟩; (try rw [← HLN120.out]); have hb := Drawn0.below hd_; clear hd_; replace HOq16 := S_b HOq16 hb; replace HOq22 := R_b HOq22 hb; replace HOq28 := R_b HOq28 hb; replace HOq35 := R_b HOq35 hb; replace HOq60 := R_b HOq60 hb; replace HOq71 := S_b HOq71 hb; replace HOq81 := R_b HOq81 hb; replace HOq91 := R_b HOq91 hb; replace HS := Z_b HS hb; replace HB := H_b HB hb; clear hb) | ((with_reducible refine gate_callee (f := 19) rfl ?_); refine goesL_ (some 117) rfl rfl Try.func19 k_ rfl #[.slice A0 l0.length c0] rfl m_ ?_; (with_reducible refine (laws_toIssuerS.calls k _ _ l0 t127 _ ?side1 ?side2 E126.out).mono ?_); (case side1 => exact Kd.C_below HR0.out HB.out); (case side2 => exact HC0.out); rintro e w128 ⟨v_0, rfl, ho0, hb⟩; obtain ⟨Aq129, cq129, rfl⟩ := Kd.S_slice ho0; refine ⟨_, rfl, ?_⟩; obtain ⟨Lq129, Uq129, HZ130, HZ131, HOq129⟩ := S_made ho0 HS.out hb HB.out.size; replace HOq16 := S_b HOq16 hb; replace HOq22 := R_b HOq22 hb; replace HOq28 := R_b HOq28 hb; replace HOq35 := R_b HOq35 hb; replace HOq60 := R_b HOq60 hb; replace HOq71 := S_b HOq71 hb; replace HOq81 := R_b HOq81 hb; replace HOq91 := R_b HOq91 hb; replace HS := Z_b HS hb; replace HB := H_b HB hb; replace HS := HZ131; clear ho0; clear hb) | ((with_reducible refine gate_callee (f := 20) rfl ?_); refine goesL_ (some 119) rfl rfl Try.func20 k_ rfl #[.slice A1 l1.length c1] rfl m_ ?_; (with_reducible refine (laws_toFactS.calls k _ _ l1 t133 _ ?side1 ?side2 E132.out).mono ?_); (case side1 => exact Kd.C_below HR1.out HB.out); (case side2 => exact HC1.out); rintro e w134 ⟨v_0, rfl, ho0, hb⟩; obtain ⟨Aq135, cq135, rfl⟩ := Kd.R_slice ho0; refine ⟨_, rfl, ?_⟩; obtain ⟨Lq135, Uq135, HZ136, HZ137, HOq135⟩ := R_made ho0 HS.out hb HB.out.size; replace HOq16 := S_b HOq16 hb; replace HOq22 := R_b HOq22 hb; replace HOq28 := R_b HOq28 hb; replace HOq35 := R_b HOq35 hb; replace HOq60 := R_b HOq60 hb; replace HOq71 := S_b HOq71 hb; replace HOq81 := R_b HOq81 hb; replace HOq91 := R_b HOq91 hb; replace HOq129 := S_b HOq129 hb; replace HS := Z_b HS hb; replace HB := H_b HB hb; replace HS := HZ137; clear ho0; clear hb) | ((with_reducible refine gate_callee (f := 21) rfl ?_); refine goesL_ (some 121) rfl rfl Try.func21 k_ rfl #[.slice A2 l2.length c2] rfl m_ ?_; (with_reducible refine (laws_toStatedS.calls k _ _ l2 t139 _ ?side1 ?side2 E138.out).mono ?_); (case side1 => exact Kd.C_below HR2.out HB.out); (case side2 => exact HC2.out); rintro e w140 ⟨v_0, rfl, ho0, hb⟩; obtain ⟨Aq141, cq141, rfl⟩ := Kd.R_slice ho0; refine ⟨_, rfl, ?_⟩; obtain ⟨Lq141, Uq141, HZ142, HZ143, HOq141⟩ := R_made ho0 HS.out hb HB.out.size; replace HOq16 := S_b HOq16 hb; replace HOq22 := R_b HOq22 hb; replace HOq28 := R_b HOq28 hb; replace HOq35 := R_b HOq35 hb; replace HOq60 := R_b HOq60 hb; replace HOq71 := S_b HOq71 hb; replace HOq81 := R_b HOq81 hb; replace HOq91 := R_b HOq91 hb; replace HOq129 := S_b HOq129 hb; replace HOq135 := R_b HOq135 hb; replace HS := Z_b HS hb; replace HB := H_b HB hb; replace HS := HZ143; clear ho0; clear hb) | ((with_reducible refine gate_callee (f := 22) rfl ?_); refine goesL_ (some 122) rfl rfl Try.func22 k_ rfl #[.slice Aq129 t127.length cq129, .slice Aq135 t133.length cq135, .slice Aq141 t139.length cq141] rfl m_ ?_; (with_reducible refine (impl_TakeStated.calls k _ _ t127 _ _ t133 _ _ t139 t145 t33 _ ?side1 ?side2 ?side3 ?side4 ?side5 ?side6 E144.out).mono ?_); (case side1 => exact (Kd.S_reads' HOq129.out).2.2); (case side2 => exact (Kd.S_reads' HOq129.out).2.1); (case side3 => exact (Kd.R_reads' HOq135.out).2.2); (case side4 => exact (Kd.R_reads' HOq135.out).2.1); (case side5 => exact (Kd.R_reads' HOq141.out).2.2); (case side6 => exact (Kd.R_reads' HOq141.out).2.1); rintro e w147 ⟨v_0, rfl, ho0, hb⟩; obtain ⟨Aq148, cq148, rfl⟩ := Kd.R_slice ho0; refine ⟨_, rfl, ?_⟩; obtain ⟨Lq148, Uq148, HZ149, HZ150, HOq148⟩ := R_made ho0 HS.out hb HB.out.size; replace HOq16 := S_b HOq16 hb; replace HOq22 := R_b HOq22 hb; replace HOq28 := R_b HOq28 hb; replace HOq35 := R_b HOq35 hb; replace HOq60 := R_b HOq60 hb; replace HOq71 := S_b HOq71 hb; replace HOq81 := R_b HOq81 hb; replace HOq91 := R_b HOq91 hb; replace HOq129 := S_b HOq129 hb; replace HOq135 := R_b HOq135 hb; replace HOq141 := R_b HOq141 hb; replace HS := Z_b HS hb; replace HB := H_b HB hb; replace HS := HZ150; clear ho0; clear hb) | ((with_reducible refine gate_callee (f := 23) rfl ?_); refine goesL_ (some 127) rfl rfl Try.func23 k_ rfl #[.slice Aq148 t145.length cq148, .slice Aq35 t32.length cq35] rfl m_ ?_; (with_reducible refine (laws_eqFactS.calls k _ _ t145 _ _ t32 true _ ?side1 ?side2 ?side3 ?side4 E151.out).mono ?_); (case side1 => exact (Kd.R_reads' HOq148.out).2.2); (case side2 => exact (Kd.R_reads' HOq148.out).2.1); (case side3 => exact (Kd.R_reads' HOq35.out).2.2); (case side4 => exact (Kd.R_reads' HOq35.out).2.1); rintro e w153 ⟨rfl, hb⟩; refine ⟨_, rfl, ?_⟩; replace HOq16 := S_b HOq16 hb; replace HOq22 := R_b HOq22 hb; replace HOq28 := R_b HOq28 hb; replace HOq35 := R_b HOq35 hb; replace HOq60 := R_b HOq60 hb; replace HOq71 := S_b HOq71 hb; replace HOq81 := R_b HOq81 hb; replace HOq91 := R_b HOq91 hb; replace HOq129 := S_b HOq129 hb; replace HOq135 := R_b HOq135 hb; replace HOq141 := R_b HOq141 hb; replace HOq148 := R_b HOq148 hb; replace HS := Z_b HS hb; replace HB := H_b HB hb; clear hb) | ((with_reducible refine gate_callee (f := 29) rfl ?_); refine goesL_ (some 136) rfl rfl Try.func29 k_ rfl #[.slice Aq60 t57.length cq60, .int .i64 1] rfl m_ ?_; rw [HLN120.out]; (with_reducible refine (laws_heldFactS.calls k _ _ t118 1 t117 _ ?side1 ?side2 E156.out).mono ?_); (case side1 => exact (Kd.R_reads' HOq60.out).2.2); (case side2 => (have h1_ := (Kd.R_reads' HOq60.out).2.1; have h2_ := HLN120.out; omega)); rintro e w158 ⟨rfl, hd_⟩; refine ⟨_, rfl, ?_⟩; (try rw [← HLN120.out]); have hb := Drawn0.below hd_; clear hd_; replace HOq16 := S_b HOq16 hb; replace HOq22 := R_b HOq22 hb; replace HOq28 := R_b HOq28 hb; replace HOq35 := R_b HOq35 hb; replace HOq60 := R_b HOq60 hb; replace HOq71 := S_b HOq71 hb; replace HOq81 := R_b HOq81 hb; replace HOq91 := R_b HOq91 hb; replace HOq129 := S_b HOq129 hb; replace HOq135 := R_b HOq135 hb; replace HOq141 := R_b HOq141 hb; replace HOq148 := R_b HOq148 hb; replace HS := Z_b HS hb; replace HB := H_b HB hb; clear hb))
 go_ret
 exact ⟨rfl, HB.out⟩
def wf45 (x : S45) : Prop := (Lit.int .i64 x.f0).wf = true ∧ (x.f1.length ≤ maxLen ∧ ∀ y4 ∈ x.f1, (Lit.int .i64 y4).wf = true) ∧ (Lit.int .i64 x.f2).wf = true
def wf53 (x : S53) : Prop := (Lit.int .i64 x.f0).wf = true ∧ (Lit.int .i64 x.f1).wf = true ∧ (Lit.int .i64 x.f2).wf = true ∧ (Lit.int .i64 x.f3).wf = true ∧ (Lit.int .i64 x.f4).wf = true ∧ (Lit.int .i64 x.f5).wf = true
def wf82 (x : S82) : Prop := wf53 x.f0 ∧ (Lit.int .i64 x.f1).wf = true
/-- THE ONE PURE STATEMENT of laws_FnExactTakeStated. -/
def laws_FnExactTakeStated.Pure : Prop := ∀ (l0 : List (S45)) (l1 : List (S53)) (l2 : List (S82)), ((l0.length ≤ maxLen ∧ ∀ y2 ∈ l0, wf45 y2)) → ((l1.length ≤ maxLen ∧ ∀ y2 ∈ l1, wf53 y2)) → ((l2.length ≤ maxLen ∧ ∀ y2 ∈ l2, wf82 y2)) → ∃ k, laws_FnExactTakeStated.f k l0 l1 l2 = some true

end Go.Proofs.Ytabpgiebhgkfhaa.XFnExactTakeStated
