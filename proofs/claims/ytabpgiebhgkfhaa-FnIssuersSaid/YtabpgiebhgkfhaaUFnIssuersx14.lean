/- Written by this session's own program (wip/xprint, which runs over the kit's print): what the functions that the law reaches come to, each proved; and the law's row. Conditions: none. -/
import Derived.Test.YtabpgiebhgkfhaaUFnIssuersSq
import Derived.Test.YtabpgiebhgkfhaaUFnIssuersx0
namespace Go.Proofs.Ytabpgiebhgkfhaa.XFnIssuers
open Go.RowKit Go.Proofs.YtabpgiebhgkfhaaW.PrintWords Go.Proofs.YtabpgiebhgkfhaaW.PrintLast Go.Proofs.YtabpgiebhgkfhaaW.PrintMore Go.Proofs.YtabpgiebhgkfhaaSq
attribute [local go_sem] max2_int min2_int max_two min_two max_three min_three max_four min_four   -- for this text's walks alone
set_option linter.unusedVariables false
set_option linter.unusedSimpArgs false

/-- A state of type 125 at block g of W; what its slices lead to came in by w0. -/
def IsS125 (w0 W : World) (g : Nat) (f0 : List Int) (f1 : Int) (f2 : Int) : Prop := ∃ A0 c0, W.heap[g]? = some (.cells #[.slice A0 f0.length c0, .int .i64 f1, .int .i64 f2] 125 (0, 0)) ∧ w0.heap.size ≤ g ∧ Kd.C (Kd.int .u8) w0 A0 f0.length f0
theorem IsS125.grown {w0 W : World} {g : Nat} {f0 : List Int} {f1 : Int} {f2 : Int} {W1 : World} {row : Option Nat} (h : IsS125 w0 W g f0 f1 f2) (hw : W.grownBy W1 row) (hne : some g ≠ row) : IsS125 w0 W1 g f0 f1 f2 := by
  obtain ⟨A0, c0, hb, hg, hr0⟩ := h
  exact ⟨A0, c0, blk_grown hb hw hne, hg, hr0⟩
theorem IsS125.own_neN {w0 W : World} {g : Nat} {f0 : List Int} {f1 : Int} {f2 : Int} {α : Type} {d : Kd α} {e : Nat} {base : Nat} {ok : Nat → Prop} {v : Value} {xs : List α} (h : IsS125 w0 W g f0 f1 f2) (ho : Kd.N d e W base ok v xs) (ht : e ≠ 125) : some g ≠ v.ownBlock := by
  obtain ⟨A0, c0, hb, hg, hr0⟩ := h
  exact Kd.N_ne ho hb ht
theorem IsS125.fresh {w0 W : World} {g : Nat} {f0 : List Int} {f1 : Int} {f2 : Int} (h : IsS125 w0 W g f0 f1 f2) : ∀ k, W.heap.size ≤ k → k ≠ g := by
  obtain ⟨A0, c0, hb, hg, hr0⟩ := h
  exact Kd.freshB hb
theorem IsS125.kept {w0 W : World} {g : Nat} {f0 : List Int} {f1 : Int} {f2 : Int} {W1 : World} {S : Nat → Prop} (h : IsS125 w0 W g f0 f1 f2) (hk : Kept W W1 S) (hne : ¬ S g) : IsS125 w0 W1 g f0 f1 f2 := by
  obtain ⟨A0, c0, hb, hg, hr0⟩ := h
  exact ⟨A0, c0, blk_kept hb hk hne, hg, hr0⟩
theorem IsS125.below {w0 W : World} {g : Nat} {f0 : List Int} {f1 : Int} {f2 : Int} {W1 : World} (h : IsS125 w0 W g f0 f1 f2) (hw : Below W.heap.size W W1) : IsS125 w0 W1 g f0 f1 f2 := h.grown (grown_of_below hw none) (by simp)
theorem IsS125.alloc {w0 W : World} {g : Nat} {f0 : List Int} {f1 : Int} {f2 : Int} (h : IsS125 w0 W g f0 f1 f2) (o : Obj) : IsS125 w0 (W.alloc o) g f0 f1 f2 := h.below (bA_ (Below.refl _ _) o)
theorem IsS125.drewN {w0 W : World} {g : Nat} {f0 : List Int} {f1 : Int} {f2 : Int} (h : IsS125 w0 W g f0 f1 f2) (m : Nat) : IsS125 w0 (W.drewN m) g f0 f1 f2 := h
theorem IsS125.drew {w0 W : World} {g : Nat} {f0 : List Int} {f1 : Int} {f2 : Int} (h : IsS125 w0 W g f0 f1 f2) : IsS125 w0 W.drew g f0 f1 f2 := h
theorem IsS125.at_ {w0 W : World} {g : Nat} {f0 : List Int} {f1 : Int} {f2 : Int} {w' : World} {m : Nat} (hq : W.drewN m = w') (h : IsS125 w0 W g f0 f1 f2) : IsS125 w0 w' g f0 f1 f2 := by subst hq; exact IsS125.drewN h m
theorem IsS125.apart {w0 W : World} {g : Nat} {f0 : List Int} {f1 : Int} {f2 : Int} {α : Type} {d : Kd α} {e : Nat} {base : Nat} {ok : Nat → Prop} {v : Value} {xs : List α} (h : IsS125 w0 W g f0 f1 f2) (ho : d.R e W base ok v xs) (ht : ∀ q, q ∈ e :: d.E → q ≠ 125) : d.R e W base (fun k => ok k ∧ k ≠ g) v xs := by
  obtain ⟨A0, c0, hb, hg, hr0⟩ := h
  exact Kd.R_types ho hb ht
theorem IsS125.own_ne {w0 W : World} {g : Nat} {f0 : List Int} {f1 : Int} {f2 : Int} {α : Type} {d : Kd α} {e : Nat} {base : Nat} {ok : Nat → Prop} {v : Value} {xs : List α} (h : IsS125 w0 W g f0 f1 f2) (ho : d.R e W base ok v xs) (ht : e ≠ 125) : some g ≠ v.ownBlock := by
  obtain ⟨A0, c0, hb, hg, hr0⟩ := h
  exact Kd.R_ne ho hb ht
theorem IsS125.apartQ {w0 W : World} {g : Nat} {f0 : List Int} {f1 : Int} {f2 : Int} {α : Type} {d : Kd α} {e : Nat} {base : Nat} {ok : Nat → Prop} {v : Value} {xs : List α} (h : IsS125 w0 W g f0 f1 f2) (ho : d.Q e W base ok v xs) (ht : ∀ q, q ∈ e :: d.E → q ≠ 125) : d.Q e W base (fun k => ok k ∧ k ≠ g) v xs := by
  obtain ⟨A0, c0, hb, hg, hr0⟩ := h
  exact Kd.Q_types ho hb ht
theorem IsS125.own_neQ {w0 W : World} {g : Nat} {f0 : List Int} {f1 : Int} {f2 : Int} {α : Type} {d : Kd α} {e : Nat} {base : Nat} {ok : Nat → Prop} {v : Value} {xs : List α} (h : IsS125 w0 W g f0 f1 f2) (ho : d.Q e W base ok v xs) (ht : e ≠ 125) : some g ≠ v.ownBlock := by
  obtain ⟨A0, c0, hb, hg, hr0⟩ := h
  exact Kd.Q_ne ho hb ht
theorem IsS125.apartS {w0 W : World} {g : Nat} {f0 : List Int} {f1 : Int} {f2 : Int} {α : Type} {d : Kd α} {e : Nat} {base : Nat} {ok : Nat → Prop} {v : Value} {xs : List α} (h : IsS125 w0 W g f0 f1 f2) (ho : d.S e W base ok v xs) (ht : ∀ q, q ∈ e :: d.E → q ≠ 125) : d.S e W base (fun k => ok k ∧ k ≠ g) v xs := by
  obtain ⟨A0, c0, hb, hg, hr0⟩ := h
  exact Kd.S_types ho hb ht
theorem IsS125.own_neS {w0 W : World} {g : Nat} {f0 : List Int} {f1 : Int} {f2 : Int} {α : Type} {d : Kd α} {e : Nat} {base : Nat} {ok : Nat → Prop} {v : Value} {xs : List α} (h : IsS125 w0 W g f0 f1 f2) (ho : d.S e W base ok v xs) (ht : e ≠ 125) : some g ≠ v.ownBlock := by
  obtain ⟨A0, c0, hb, hg, hr0⟩ := h
  exact Kd.S_ne ho hb ht
theorem IsS125.lt {w0 W : World} {g : Nat} {f0 : List Int} {f1 : Int} {f2 : Int} (h : IsS125 w0 W g f0 f1 f2) : g < W.heap.size := by
  obtain ⟨A0, c0, hb, hg, hr0⟩ := h
  exact blk_lt hb
theorem IsS125.ge {w0 W : World} {g : Nat} {f0 : List Int} {f1 : Int} {f2 : Int} (h : IsS125 w0 W g f0 f1 f2) : w0.heap.size ≤ g := by
  obtain ⟨A0, c0, hb, hg, hr0⟩ := h
  exact hg
theorem IsS125.ne_blk {w0 W : World} {g : Nat} {f0 : List Int} {f1 : Int} {f2 : Int} {a : Nat} {cs : Array Value} {t : TypeId} {fr : Nat × Nat} (h : IsS125 w0 W g f0 f1 f2) (hb2 : W.heap[a]? = some (.cells cs t fr)) (ht : t ≠ 125) : g ≠ a := by
  obtain ⟨A0, c0, hb, hg, hr0⟩ := h
  rintro rfl
  rw [hb] at hb2
  injection hb2 with hb2
  injection hb2 with _ ht2
  exact ht ht2.symm
theorem IsS125.far {w0 W : World} {g : Nat} {f0 : List Int} {f1 : Int} {f2 : Int} {p : Addr} (h : IsS125 w0 W g f0 f1 f2) (hne : g ≠ p.block) (u : Value) : IsS125 w0 (W.setCell p u) g f0 f1 f2 := by
  obtain ⟨A0, c0, hb, hg, hr0⟩ := h
  exact ⟨A0, c0, blk_far hb hne u, hg, hr0⟩
theorem cellS125_0 {W : World} {g : Nat} {A0 : Option Addr} {c0 : Nat} {f0 : List Int} {f1 : Int} {f2 : Int} (h : W.heap[g]? = some (.cells #[.slice A0 f0.length c0, .int .i64 f1, .int .i64 f2] 125 (0, 0))) : W.cell? ⟨g, 0, none⟩ = some (.slice A0 f0.length c0) := (bC_ h 0).trans rfl
theorem cellS125_1 {W : World} {g : Nat} {A0 : Option Addr} {c0 : Nat} {f0 : List Int} {f1 : Int} {f2 : Int} (h : W.heap[g]? = some (.cells #[.slice A0 f0.length c0, .int .i64 f1, .int .i64 f2] 125 (0, 0))) : W.cell? ⟨g, 1, none⟩ = some (.int .i64 f1) := (bC_ h 1).trans rfl
theorem IsS125.set_1 {w0 W : World} {g : Nat} {f0 : List Int} {f1 : Int} {f2 : Int} (h : IsS125 w0 W g f0 f1 f2) (x : Int) : IsS125 w0 (W.setCell ⟨g, 1, none⟩ (.int .i64 x)) g f0 x f2 := by
  obtain ⟨A0, c0, hb, hg, hr0⟩ := h
  exact ⟨A0, c0, by simpa using blk_set hb 1 (.int .i64 x), hg, hr0⟩
theorem cellS125_2 {W : World} {g : Nat} {A0 : Option Addr} {c0 : Nat} {f0 : List Int} {f1 : Int} {f2 : Int} (h : W.heap[g]? = some (.cells #[.slice A0 f0.length c0, .int .i64 f1, .int .i64 f2] 125 (0, 0))) : W.cell? ⟨g, 2, none⟩ = some (.int .i64 f2) := (bC_ h 2).trans rfl
theorem IsS125.set_2 {w0 W : World} {g : Nat} {f0 : List Int} {f1 : Int} {f2 : Int} (h : IsS125 w0 W g f0 f1 f2) (x : Int) : IsS125 w0 (W.setCell ⟨g, 2, none⟩ (.int .i64 x)) g f0 f1 x := by
  obtain ⟨A0, c0, hb, hg, hr0⟩ := h
  exact ⟨A0, c0, by simpa using blk_set hb 2 (.int .i64 x), hg, hr0⟩
theorem IsS125.new (w0 W : World) (A0 : Option Addr) (c0 : Nat) (f0 : List Int) (f1 : Int) (f2 : Int) (hB : Below w0.heap.size w0 W) (hr0 : Kd.C (Kd.int .u8) w0 A0 f0.length f0) : IsS125 w0 (W.alloc (.cells #[.slice A0 f0.length c0, .int .i64 f1, .int .i64 f2] 125)) W.heap.size f0 f1 f2 := ⟨A0, c0, by simpa using heap_alloc_new W _, hB.size, hr0⟩

/-! ### spec_l1New: function 98 -/
def spec_l1New.l0 : Nat → List Int → Int → Int → Option (List Int × Int × Int)
 | 0, _, _, _ => none
 | k + 1, x0, x3, x4 => if x4 < (x0.length : Int) then (if x4 < 4000 then (if 0 ≤ x4 then (spec_l1New.l0 k x0 (Go.bits .and .i64 (wrap64 ((wrap64 ((wrap64 (x3 * 137)) + (wrap64 (rd x0 x4)))) + 11)) 1073741823) (wrap64 (x4 + 1))) else (none)) else (some (x0, 0, x3))) else (some (x0, 0, x3))
def spec_l1New.f (k : Nat) (l0 : List Int) : Option (List Int × Int × Int) := spec_l1New.l0 k l0 (wrap64 (193017 + (l0.length : Int))) 0
theorem z98_0 {Q : Prop} (g : Q := by rw [hg]; exact (below_size (by repeat (first | (with_reducible first | exact HBW.out | apply bA_ | apply bN_ | apply bD_) | exact HBW.out)))) : Q := g
set_option maxHeartbeats 8000000 in
set_option maxRecDepth 100000 in
theorem spec_l1New.calls (k : Nat) (A0 : Option Addr) (c0 : Nat) (l0 : List Int) (r1 : List Int) (r2 : Int) (r3 : Int) (w0 w : World) (hB : Below w0.heap.size w0 w) (hr0 : Kd.C (Kd.int .u8) w0 A0 l0.length l0) (hc0 : l0.length ≤ c0) (h : spec_l1New.f k l0 = some (r1, r2, r3)) :
  Calls Try.prog 98 #[.slice A0 l0.length c0] w fun e w' => ∃ g_ : Nat, e = .returned (.pointer (some ⟨g_, 0, none⟩)) ∧ IsS125 w0 w' g_ r1 r2 r3 ∧ Below w0.heap.size w0 w' ∧ Below w.heap.size w w' := by
 have hu125 := Try.underlying125
 have HR0 := As_.mk hr0
 have HC0 := As_.mk hc0
 clear hr0 hc0
 have HBW := As_.mk (Below.refl w.heap.size w)
 have HW0 := As_.mk hB.size
 have HB := As_.mk hB
 clear hB
 have H : (spec_l1New.l0 k l0 (wrap64 (193017 + (l0.length : Int))) 0) = some (r1, r2, r3) := h
 clear h
 have H' := As_.mk H
 clear H
 go_enter Try.func98, Try.ntmps98
 go_wp2
 go_loopg [3, 4] k (fun kq v3 v4 w' => ∃ (x3_1 : Int) (x4_1 : Int), v3 = .int .i64 x3_1 ∧ v4 = .int .i64 x4_1 ∧ As_ (spec_l1New.l0 kq l0 x3_1 x4_1 = some (r1, r2, r3)) ∧ As_ (kq ≤ k) ∧ As_ (Below w0.heap.size w0 w') ∧ As_ (Below w.heap.size w w'))
 case atStart => exact ⟨(wrap64 (193017 + (l0.length : Int))), (0), sqr, sqr, H', ⟨Nat.le_refl _⟩, ⟨sqh⟩, ⟨by repeat (first | (with_reducible first | exact HBW.out | apply bA_ | apply bN_ | apply bD_) | exact HBW.out)⟩⟩
 case round =>
  clear H'
  obtain ⟨x3_1, x4_1, rfl, rfl, HA, HK1, HB, HBW⟩ := hrel
  cases gk with
  | zero => exact absurd HA.out (by simp [spec_l1New.l0])
  | succ k1 =>
   have H := HA.out
   clear HA
   simp only [spec_l1New.l0] at H
   by_cases c2 : x4_1 < (l0.length : Int)
   ·rw [if_pos c2] at H
    have c2b0 : decide (x4_1 < (l0.length : Int)) = true := decide_eq_true c2
    clear c2
    by_cases c3 : x4_1 < 4000
    ·rw [if_pos c3] at H
     have c3b0 : decide (x4_1 < 4000) = true := decide_eq_true c3
     clear c3
     by_cases c4 : 0 ≤ x4_1
     ·rw [if_pos c4] at H
      have c4b0 : decide (0 ≤ x4_1) = true := decide_eq_true c4
      clear c4
      have H' := As_.mk H
      clear H
      have p300 : 0 ≤ (x4_1 : Int) := of_decide_eq_true sqs
      have q300 : x4_1 < (l0.length : Int) := of_decide_eq_true sqs
      obtain ⟨ad300, e300, hx300_0⟩ := Kd.at_int HR0.out x4_1 p300 q300
      cases e300
      replace hx300_0 := pw_cell_below HB.out hx300_0
      replace p300 := eq_true p300
      replace q300 := eq_true q300
      go_wp2
      go_roundg k1
      case measure => have := HK1.out; omega
      case rel => exact ⟨(Go.bits .and .i64 (wrap64 ((wrap64 ((wrap64 (x3_1 * 137)) + (wrap64 (rd l0 x4_1)))) + 11)) 1073741823), (wrap64 (x4_1 + 1)), sqr, sqr, H', ⟨by have := HK1.out; omega⟩, ⟨sqh⟩, ⟨by repeat (first | (with_reducible first | exact HBW.out | apply bA_ | apply bN_ | apply bD_) | exact HBW.out)⟩⟩
     ·rw [if_neg c4] at H
      exact absurd H (by simp)
    ·rw [if_neg c3] at H
     have c3b0 : decide (x4_1 < 4000) = false := decide_eq_false c3
     clear c3
     simp only [Option.some.injEq, Prod.mk.injEq] at H
     obtain ⟨rfl, rfl, rfl⟩ := H
     go_wp2_with (first | ((with_reducible refine gate_dst (N := 31) rfl ?_); refine bx (N := 31) (cs := #[.slice A0 l0.length c0, .int .i64 0, .int .i64 x3_1]) (t := 125) ?_; intro gb301 hg w5 hbox hb; replace HB := As_.mk (below_step sqh hb); have BK301 := As_.mk (hbox); have GW301 := As_.mk ((z98_0 : w.heap.size ≤ gb301)); have GE301 := As_.mk ((Nat.le_trans HW0.out (z98_0 : w.heap.size ≤ gb301) : w0.heap.size ≤ gb301)); replace HBW := As_.mk (below_step HBW.out hb); clear hb hbox hg))
     go_ret
     exact ⟨_, rfl, (show IsS125 w0 _ gb301 l0 0 x3_1 from ⟨_, _, sqb BK301.out, GE301.out, HR0.out⟩), sqh, by repeat (first | (with_reducible first | exact HBW.out | apply bA_ | apply bN_ | apply bD_ | refine bS_ ?_ GW301.out) | exact HBW.out)⟩
   ·rw [if_neg c2] at H
    have c2b0 : decide (x4_1 < (l0.length : Int)) = false := decide_eq_false c2
    clear c2
    simp only [Option.some.injEq, Prod.mk.injEq] at H
    obtain ⟨rfl, rfl, rfl⟩ := H
    go_wp2_with (first | ((with_reducible refine gate_dst (N := 31) rfl ?_); refine bx (N := 31) (cs := #[.slice A0 l0.length c0, .int .i64 0, .int .i64 x3_1]) (t := 125) ?_; intro gb302 hg w6 hbox hb; replace HB := As_.mk (below_step sqh hb); have BK302 := As_.mk (hbox); have GW302 := As_.mk ((z98_0 : w.heap.size ≤ gb302)); have GE302 := As_.mk ((Nat.le_trans HW0.out (z98_0 : w.heap.size ≤ gb302) : w0.heap.size ≤ gb302)); replace HBW := As_.mk (below_step HBW.out hb); clear hb hbox hg))
    go_ret
    exact ⟨_, rfl, (show IsS125 w0 _ gb302 l0 0 x3_1 from ⟨_, _, sqb BK302.out, GE302.out, HR0.out⟩), sqh, by repeat (first | (with_reducible first | exact HBW.out | apply bA_ | apply bN_ | apply bD_ | refine bS_ ?_ GW302.out) | exact HBW.out)⟩

/-! ### spec_l8Issuers: function 101 -/
def spec_l8Issuers.f  : Option ((List (S48))) := some (([(⟨0, (([1, 2] : List Int)), 101⟩ : S48), (⟨1, (([3, 4] : List Int)), 102⟩ : S48), (⟨2, (([1, 2, 3, 4] : List Int)), 103⟩ : S48)] : List (S48)))
set_option maxHeartbeats 8000000 in
set_option maxRecDepth 100000 in
theorem spec_l8Issuers.calls  (r : List (S48)) (w : World) (h : spec_l8Issuers.f  = some r) :
  Calls Try.prog 101 #[] w fun e w' => ∃ v0_ : Value, e = .returned (v0_) ∧ Kd.N k48 48 w' w.heap.size (fun k_ => (w.heap.size ≤ k_)) v0_ r ∧ Below w.heap.size w w' := by
 have hu48 := Try.underlying48
 have HB := As_.mk (Below.refl w.heap.size w)
 have H : (some (([(⟨0, (([1, 2] : List Int)), 101⟩ : S48), (⟨1, (([3, 4] : List Int)), 102⟩ : S48), (⟨2, (([1, 2, 3, 4] : List Int)), 103⟩ : S48)] : List (S48)))) = some r := h
 clear h
 obtain ⟨y303, hy303⟩ : ∃ y_ : List Int, y_ = (([1, 2] : List Int)) := ⟨_, rfl⟩
 replace H : (some (([(⟨0, y303, 101⟩ : S48), (⟨1, (([3, 4] : List Int)), 102⟩ : S48), (⟨2, (([1, 2, 3, 4] : List Int)), 103⟩ : S48)] : List (S48)))) = some r := by first | (rw [hy303]; with_reducible exact H) | (have H2_ := (Option.bind_some _ _).symm.trans H; rw [hy303]; with_reducible exact H2_) | (have H2_ := (Option.bind_some _ _).symm.trans H; with_reducible exact H2_) | with_reducible exact H | (rw [hy303]; exact H) | exact H
 have Ny303 := As_.mk hy303
 clear hy303
 obtain ⟨y306, hy306⟩ : ∃ y_ : List Int, y_ = (([3, 4] : List Int)) := ⟨_, rfl⟩
 replace H : (some (([(⟨0, y303, 101⟩ : S48), (⟨1, y306, 102⟩ : S48), (⟨2, (([1, 2, 3, 4] : List Int)), 103⟩ : S48)] : List (S48)))) = some r := by first | (rw [hy306]; with_reducible exact H) | (have H2_ := (Option.bind_some _ _).symm.trans H; rw [hy306]; with_reducible exact H2_) | (have H2_ := (Option.bind_some _ _).symm.trans H; with_reducible exact H2_) | with_reducible exact H | (rw [hy306]; exact H) | exact H
 have Ny306 := As_.mk hy306
 clear hy306
 obtain ⟨y309, hy309⟩ : ∃ y_ : List Int, y_ = (([1, 2, 3, 4] : List Int)) := ⟨_, rfl⟩
 replace H : (some (([(⟨0, y303, 101⟩ : S48), (⟨1, y306, 102⟩ : S48), (⟨2, y309, 103⟩ : S48)] : List (S48)))) = some r := by first | (rw [hy309]; with_reducible exact H) | (have H2_ := (Option.bind_some _ _).symm.trans H; rw [hy309]; with_reducible exact H2_) | (have H2_ := (Option.bind_some _ _).symm.trans H; with_reducible exact H2_) | with_reducible exact H | (rw [hy309]; exact H) | exact H
 have Ny309 := As_.mk hy309
 clear hy309
 obtain ⟨y312, hy312⟩ : ∃ y_ : List (S48), y_ = (([(⟨0, y303, 101⟩ : S48), (⟨1, y306, 102⟩ : S48), (⟨2, y309, 103⟩ : S48)] : List (S48))) := ⟨_, rfl⟩
 replace H : (some y312) = some r := by first | (rw [hy312]; with_reducible exact H) | (have H2_ := (Option.bind_some _ _).symm.trans H; rw [hy312]; with_reducible exact H2_) | (have H2_ := (Option.bind_some _ _).symm.trans H; with_reducible exact H2_) | with_reducible exact H | (rw [hy312]; exact H) | exact H
 have Ny312 := As_.mk hy312
 clear hy312
 obtain rfl := Option.some.inj H
 go_enter Try.func101, Try.ntmps101
 go_wp2_with (first | ((with_reducible refine gate_dst (N := 1) rfl ?_); refine Kd.R_lit (Kd.int .i64) _ 3 ?hg (N := 1) ?hd (xs := ([1, 2] : List Int)) (inner := [.int .i64 1, .int .i64 2]) (ok := fun _ => True) (okp := fun _ => True) ?hr ?hp (fun _ hk => hk) trivial (Below.refl _ _) (Nat.le_refl _) (by simp) ?_; (case hd => rfl); (case hg => rfl); (case hr => first | (go_simp; done) | (go_simp; rfl)); (case hp => exact (Reps.one (show Kd.M (Kd.int .i64) _ _ _ 1 [.int .i64 1] from rfl) (Reps.one (show Kd.M (Kd.int .i64) _ _ _ 2 [.int .i64 2] from rfl) (Reps.none _ _)))); intro v304 w1 ho2 hb hg_ hnew_; clear hg_ hnew_; (first | rw [← Ny303.out] at ho2 | (simp only [Int.reduceToNat] at ho2; rw [← Ny303.out] at ho2)); have HO305 := As_.mk (Kd.R_lower (Kd.R_newM (M := fun k_ => (w.heap.size ≤ k_)) ho2 (below_size sqh) (fun k_ h_ => h_)) (below_size sqh)); replace HB := As_.mk (below_step sqh hb); clear hb ho2; obtain ⟨Ao3, co3, eo3⟩ := Kd.R_slice HO305.out; subst eo3) | ((with_reducible refine gate_dst (N := 3) rfl ?_); refine Kd.R_lit (Kd.int .i64) _ 3 ?hg (N := 3) ?hd (xs := ([3, 4] : List Int)) (inner := [.int .i64 3, .int .i64 4]) (ok := fun _ => True) (okp := fun _ => True) ?hr ?hp (fun _ hk => hk) trivial (Below.refl _ _) (Nat.le_refl _) (by simp) ?_; (case hd => rfl); (case hg => rfl); (case hr => first | (go_simp; done) | (go_simp; rfl)); (case hp => exact (Reps.one (show Kd.M (Kd.int .i64) _ _ _ 3 [.int .i64 3] from rfl) (Reps.one (show Kd.M (Kd.int .i64) _ _ _ 4 [.int .i64 4] from rfl) (Reps.none _ _)))); intro v307 w4 ho5 hb hg_ hnew_; clear hg_ hnew_; (first | rw [← Ny306.out] at ho5 | (simp only [Int.reduceToNat] at ho5; rw [← Ny306.out] at ho5)); have HO308 := As_.mk (Kd.R_lower (Kd.R_new' (Kd.R_newM (M := fun k_ => (w.heap.size ≤ k_)) ho5 (below_size sqh) (fun k_ h_ => h_)) (Kd.R_lt (sqq HO305.out))) (below_size sqh)); replace HO305 := As_.mk (Kd.R_elder' (sqq HO305.out) (Kd.R_base ho5) hb); replace HB := As_.mk (below_step sqh hb); clear hb ho5; obtain ⟨Ao6, co6, eo6⟩ := Kd.R_slice HO308.out; subst eo6) | ((with_reducible refine gate_dst (N := 5) rfl ?_); refine Kd.R_lit (Kd.int .i64) _ 3 ?hg (N := 5) ?hd (xs := ([1, 2, 3, 4] : List Int)) (inner := [.int .i64 1, .int .i64 2, .int .i64 3, .int .i64 4]) (ok := fun _ => True) (okp := fun _ => True) ?hr ?hp (fun _ hk => hk) trivial (Below.refl _ _) (Nat.le_refl _) (by simp) ?_; (case hd => rfl); (case hg => rfl); (case hr => first | (go_simp; done) | (go_simp; rfl)); (case hp => exact (Reps.one (show Kd.M (Kd.int .i64) _ _ _ 1 [.int .i64 1] from rfl) (Reps.one (show Kd.M (Kd.int .i64) _ _ _ 2 [.int .i64 2] from rfl) (Reps.one (show Kd.M (Kd.int .i64) _ _ _ 3 [.int .i64 3] from rfl) (Reps.one (show Kd.M (Kd.int .i64) _ _ _ 4 [.int .i64 4] from rfl) (Reps.none _ _)))))); intro v310 w7 ho8 hb hg_ hnew_; clear hg_ hnew_; (first | rw [← Ny309.out] at ho8 | (simp only [Int.reduceToNat] at ho8; rw [← Ny309.out] at ho8)); have HO311 := As_.mk (Kd.R_lower (Kd.R_new' (Kd.R_new' (Kd.R_newM (M := fun k_ => (w.heap.size ≤ k_)) ho8 (below_size sqh) (fun k_ h_ => h_)) (Kd.R_lt (sqq HO305.out))) (Kd.R_lt (sqq HO308.out))) (below_size sqh)); replace HO305 := As_.mk (Kd.R_elder' (sqq HO305.out) (Kd.R_base ho8) hb); replace HO308 := As_.mk (Kd.R_elder' (sqq HO308.out) (Kd.R_base ho8) hb); replace HB := As_.mk (below_step sqh hb); clear hb ho8; obtain ⟨Ao9, co9, eo9⟩ := Kd.R_slice HO311.out; subst eo9) | ((with_reducible refine gate_dst (N := 7) rfl ?_); refine Kd.N_lit k48 _ 48 ?hg (N' := 7) ?hd (xs := ([(⟨0, y303, 101⟩ : S48), (⟨1, y306, 102⟩ : S48), (⟨2, y309, 103⟩ : S48)] : List (S48))) (inner := [.int .i64 0, .slice Ao3 y303.length co3, .int .i64 101, .int .i64 1, .slice Ao6 y306.length co6, .int .i64 102, .int .i64 2, .slice Ao9 y309.length co9, .int .i64 103]) (ok := (fun k_ => (w.heap.size ≤ k_))) (okp := (fun k_ => (w.heap.size ≤ k_))) ?hr ?hp (fun _ hk => hk) ((show ∀ k_, w7.heap.size ≤ k_ → (fun k_ => (w.heap.size ≤ k_)) k_ from fun k_ hk => (Nat.le_trans (below_size sqh) hk)) _ (Nat.le_refl _)) (Below.refl _ _) (Nat.le_refl _) (by simp) ?_; (case hd => rfl); (case hg => rfl); (case hr => first | (go_simp; done) | (go_simp; rfl)); (case hp => exact (Reps.c3 (show Kd.FK k48 _ _ (⟨0, y303, 101⟩ : S48) [.int .i64 0, .slice Ao3 y303.length co3, .int .i64 101] from (k48_mkF _ _ (⟨0, y303, 101⟩ : S48) (Kd.R_reads' (Kd.R_mono (ok' := (fun k_ => (w.heap.size ≤ k_))) (HO305.out) (fun k_ hk => hk.1.1.1))).2.1 (Kd.R_F (Kd.R_mono (ok' := (fun k_ => (w.heap.size ≤ k_))) (HO305.out) (fun k_ hk => hk.1.1.1))))) (Reps.c3 (show Kd.FK k48 _ _ (⟨1, y306, 102⟩ : S48) [.int .i64 1, .slice Ao6 y306.length co6, .int .i64 102] from (k48_mkF _ _ (⟨1, y306, 102⟩ : S48) (Kd.R_reads' (Kd.R_mono (ok' := (fun k_ => (w.heap.size ≤ k_))) (HO308.out) (fun k_ hk => hk.1.1.1))).2.1 (Kd.R_F (Kd.R_mono (ok' := (fun k_ => (w.heap.size ≤ k_))) (HO308.out) (fun k_ hk => hk.1.1.1))))) (Reps.c3 (show Kd.FK k48 _ _ (⟨2, y309, 103⟩ : S48) [.int .i64 2, .slice Ao9 y309.length co9, .int .i64 103] from (k48_mkF _ _ (⟨2, y309, 103⟩ : S48) (Kd.R_reads' (Kd.R_mono (ok' := (fun k_ => (w.heap.size ≤ k_))) (HO311.out) (fun k_ hk => hk.1.1.1))).2.1 (Kd.R_F (Kd.R_mono (ok' := (fun k_ => (w.heap.size ≤ k_))) (HO311.out) (fun k_ hk => hk.1.1.1))))) (Reps.none _ _))))); intro v313 w10 ho11 hb hg_ hnew_; clear hg_ hnew_; (first | rw [← Ny312.out] at ho11 | (simp only [Int.reduceToNat] at ho11; rw [← Ny312.out] at ho11)); have HO314 := As_.mk (Kd.N_lower ho11 (below_size sqh)); replace HB := As_.mk (below_step sqh hb); clear HO305 HO308 HO311; clear hb ho11))
 go_ret
 exact ⟨_, sqe, by (with_reducible repeat (first | apply Kd.N_alloc | apply Kd.N_drewN | apply Kd.N_drew)); exact HO314.out, sqh⟩

/-! ### spec_l1Byte: function 125 -/
def spec_l1Byte.f (s0_0 : List Int) (s0_1 : Int) (s0_2 : Int) : Option (Int × Int × Int) := if s0_1 < (s0_0.length : Int) then (if 0 ≤ s0_1 then (some (Go.bits .and .i64 (wrap64 ((Go.bits .and .i64 (Go.bits .xor .i64 ((wrap64 ((wrap64 (s0_2 * 6364136223846793005)) + 1442695040888963407)) / 8589934592) ((wrap64 ((wrap64 (s0_2 * 6364136223846793005)) + 1442695040888963407)) / 140737488355328)) 255) + (wrap64 (rd s0_0 s0_1)))) 255, wrap64 (s0_1 + 1), wrap64 ((wrap64 (s0_2 * 6364136223846793005)) + 1442695040888963407))) else (none)) else (some (Go.bits .and .i64 (Go.bits .xor .i64 ((wrap64 ((wrap64 (s0_2 * 6364136223846793005)) + 1442695040888963407)) / 8589934592) ((wrap64 ((wrap64 (s0_2 * 6364136223846793005)) + 1442695040888963407)) / 140737488355328)) 255, s0_1, wrap64 ((wrap64 (s0_2 * 6364136223846793005)) + 1442695040888963407)))
set_option maxHeartbeats 8000000 in
set_option maxRecDepth 100000 in
theorem spec_l1Byte.calls (g : Nat) (s0_0 : List Int) (s0_1 : Int) (s0_2 : Int) (r1 : Int) (r2 : Int) (r3 : Int) (w0 w : World) (hI : IsS125 w0 w g s0_0 s0_1 s0_2) (hB : Below w0.heap.size w0 w) (h : spec_l1Byte.f s0_0 s0_1 s0_2 = some (r1, r2, r3)) :
  Calls Try.prog 125 #[.pointer (some ⟨g, 0, none⟩)] w fun e w' => e = .returned (.int .i64 r1) ∧ IsS125 w0 w' g s0_0 r2 r3 ∧ Below w0.heap.size w0 w' ∧ KeepBut w w' g none := by
 have HI0 := As_.mk hI
 have HK := As_.mk (KeepBut.refl w g none)
 have HL := As_.mk hB.size
 clear hI
 have HW0 := As_.mk hB.size
 have HB := As_.mk hB
 clear hB
 have H : (if s0_1 < (s0_0.length : Int) then (if 0 ≤ s0_1 then (some (Go.bits .and .i64 (wrap64 ((Go.bits .and .i64 (Go.bits .xor .i64 ((wrap64 ((wrap64 (s0_2 * 6364136223846793005)) + 1442695040888963407)) / 8589934592) ((wrap64 ((wrap64 (s0_2 * 6364136223846793005)) + 1442695040888963407)) / 140737488355328)) 255) + (wrap64 (rd s0_0 s0_1)))) 255, wrap64 (s0_1 + 1), wrap64 ((wrap64 (s0_2 * 6364136223846793005)) + 1442695040888963407))) else (none)) else (some (Go.bits .and .i64 (Go.bits .xor .i64 ((wrap64 ((wrap64 (s0_2 * 6364136223846793005)) + 1442695040888963407)) / 8589934592) ((wrap64 ((wrap64 (s0_2 * 6364136223846793005)) + 1442695040888963407)) / 140737488355328)) 255, s0_1, wrap64 ((wrap64 (s0_2 * 6364136223846793005)) + 1442695040888963407)))) = some (r1, r2, r3) := h
 clear h
 by_cases c2 : s0_1 < (s0_0.length : Int)
 ·rw [if_pos c2] at H
  have c2b0 : decide (s0_1 < (s0_0.length : Int)) = true := decide_eq_true c2
  clear c2
  by_cases c3 : 0 ≤ s0_1
  ·rw [if_pos c3] at H
   have c3b0 : decide (0 ≤ s0_1) = true := decide_eq_true c3
   clear c3
   simp only [Option.some.injEq, Prod.mk.injEq] at H
   obtain ⟨rfl, rfl, rfl⟩ := H
   obtain ⟨ASz4_0, cSz4_0, HGz4, hgz4, HSz4_0⟩ := HI0.out
   have hcz4_0 := cellS125_0 HGz4
   have hcz4_1 := cellS125_1 HGz4
   have hcz4_2 := cellS125_2 HGz4
   have hfz4_1 := bF_ HGz4 1
   have hfz4_2 := bF_ HGz4 2
   clear HGz4 hgz4
   have p315 : 0 ≤ (s0_1 : Int) := of_decide_eq_true sqs
   have q315 : s0_1 < (s0_0.length : Int) := of_decide_eq_true sqs
   obtain ⟨ad315, e315, hx315_0⟩ := Kd.at_int HSz4_0 s0_1 p315 q315
   cases e315
   have hn315_0 : ad315.block ≠ g := Nat.ne_of_lt (Nat.lt_of_lt_of_le (by have := World.block_lt_of_cell? _ _ hx315_0; first | rwa [add_block] at this | exact this) (IsS125.ge HI0.out))
   replace hx315_0 := pw_cell_below HB.out hx315_0
   replace hx315_0 := (cell_far (p := ⟨g, 2, none⟩) (by first | (rw [add_block]; exact hn315_0) | (show (Addr.add _ _).block ≠ _; rw [add_block]; exact hn315_0) | exact hn315_0) (.int .i64 (wrap64 ((wrap64 (s0_2 * 6364136223846793005)) + 1442695040888963407)))).trans hx315_0
   (try have hy315_0 := fun (n_ : Nat) => (show (((w.drewN n_).setCell ⟨g, 2, none⟩ (.int .i64 (wrap64 ((wrap64 (s0_2 * 6364136223846793005)) + 1442695040888963407))))).cell? _ = some _ from hx315_0))
   clear hn315_0
   replace p315 := eq_true p315
   replace q315 := eq_true q315
   go_enter Try.func125, Try.ntmps125
   go_wp2
   repeat (go_quiet (fail); try go_wp2)
   go_ret
   exact ⟨sqe, sqi, sqj, sqp⟩
  ·rw [if_neg c3] at H
   exact absurd H (by simp)
 ·rw [if_neg c2] at H
  have c2b0 : decide (s0_1 < (s0_0.length : Int)) = false := decide_eq_false c2
  clear c2
  simp only [Option.some.injEq, Prod.mk.injEq] at H
  obtain ⟨rfl, rfl, rfl⟩ := H
  obtain ⟨ASz5_0, cSz5_0, HGz5, hgz5, HSz5_0⟩ := HI0.out
  have hcz5_0 := cellS125_0 HGz5
  have hcz5_1 := cellS125_1 HGz5
  have hcz5_2 := cellS125_2 HGz5
  have hfz5_1 := bF_ HGz5 1
  have hfz5_2 := bF_ HGz5 2
  clear HGz5 hgz5
  go_enter Try.func125, Try.ntmps125
  go_wp2
  repeat (go_quiet (fail); try go_wp2)
  go_ret
  exact ⟨sqe, sqi, sqj, sqp⟩

/-! ### spec_l1Below: function 105 -/
def spec_l1Below.f (s0_0 : List Int) (s0_1 : Int) (s0_2 : Int) (a1 : Int) : Option (Int × Int × Int) := if a1 ≤ 0 then (some (0, s0_1, s0_2)) else (if a1 ≤ 256 then ((spec_l1Byte.f s0_0 s0_1 s0_2).bind fun bt316 => (if a1 = 0 then (none) else (some (Int.tmod bt316.1 a1, bt316.2.1, bt316.2.2)))) else ((spec_l1Byte.f s0_0 s0_1 s0_2).bind fun bt319 => ((spec_l1Byte.f s0_0 bt319.2.1 bt319.2.2).bind fun bt322 => ((spec_l1Byte.f s0_0 bt322.2.1 bt322.2.2).bind fun bt325 => (if a1 = 0 then (none) else (some (Int.tmod (wrap64 ((wrap64 ((wrap64 (bt319.1 * 65536)) + (wrap64 (bt322.1 * 256)))) + bt325.1)) a1, bt325.2.1, bt325.2.2)))))))
set_option maxHeartbeats 8000000 in
set_option maxRecDepth 100000 in
theorem spec_l1Below.calls (g : Nat) (s0_0 : List Int) (s0_1 : Int) (s0_2 : Int) (a1 : Int) (r1 : Int) (r2 : Int) (r3 : Int) (w0 w : World) (hI : IsS125 w0 w g s0_0 s0_1 s0_2) (hB : Below w0.heap.size w0 w) (h : spec_l1Below.f s0_0 s0_1 s0_2 a1 = some (r1, r2, r3)) :
  Calls Try.prog 105 #[.pointer (some ⟨g, 0, none⟩), .int .i64 a1] w fun e w' => e = .returned (.int .i64 r1) ∧ IsS125 w0 w' g s0_0 r2 r3 ∧ Below w0.heap.size w0 w' ∧ KeepBut w w' g none := by
 have HI0 := As_.mk hI
 have HK := As_.mk (KeepBut.refl w g none)
 have HL := As_.mk hB.size
 clear hI
 have HW0 := As_.mk hB.size
 have HB := As_.mk hB
 clear hB
 have H : (if a1 ≤ 0 then (some (0, s0_1, s0_2)) else (if a1 ≤ 256 then ((spec_l1Byte.f s0_0 s0_1 s0_2).bind fun bt316 => (if a1 = 0 then (none) else (some (Int.tmod bt316.1 a1, bt316.2.1, bt316.2.2)))) else ((spec_l1Byte.f s0_0 s0_1 s0_2).bind fun bt319 => ((spec_l1Byte.f s0_0 bt319.2.1 bt319.2.2).bind fun bt322 => ((spec_l1Byte.f s0_0 bt322.2.1 bt322.2.2).bind fun bt325 => (if a1 = 0 then (none) else (some (Int.tmod (wrap64 ((wrap64 ((wrap64 (bt319.1 * 65536)) + (wrap64 (bt322.1 * 256)))) + bt325.1)) a1, bt325.2.1, bt325.2.2)))))))) = some (r1, r2, r3) := h
 clear h
 by_cases c3 : a1 ≤ 0
 ·rw [if_pos c3] at H
  have c3b0 : decide (a1 ≤ 0) = true := decide_eq_true c3
  clear c3
  simp only [Option.some.injEq, Prod.mk.injEq] at H
  obtain ⟨rfl, rfl, rfl⟩ := H
  go_enter Try.func105, Try.ntmps105
  go_wp2
  go_ret
  exact ⟨sqe, sqi, sqj, sqp⟩
 ·rw [if_neg c3] at H
  have c3b0 : decide (a1 ≤ 0) = false := decide_eq_false c3
  clear c3
  by_cases c4 : a1 ≤ 256
  ·rw [if_pos c4] at H
   have c4b0 : decide (a1 ≤ 256) = true := decide_eq_true c4
   clear c4
   obtain ⟨⟨t316, t317, t318⟩, A5, H⟩ := bA H
   dsimp only at H
   by_cases c6 : a1 = 0
   ·rw [if_pos c6] at H
    exact absurd H (by simp)
   ·rw [if_neg c6] at H
    have c6b0 : (a1 == 0) = false := beq_eq_false_iff_ne.mpr c6
    have c6b1 : (a1 != 0) = true := bne_iff_ne.mpr c6
    simp only [Option.some.injEq, Prod.mk.injEq] at H
    obtain ⟨rfl, rfl, rfl⟩ := H
    go_enter Try.func105, Try.ntmps105
    go_wp2_with (first | ((with_reducible refine gate_callee (f := 125) rfl ?_); refine goesL_ (some 13) rfl rfl Try.func125 sqk rfl #[.pointer (some ⟨g, 0, none⟩)] rfl sqm ?_; (with_reducible refine (spec_l1Byte.calls g s0_0 s0_1 s0_2 t316 t317 t318 w0 _ ?side1 ?side2 A5.out).mono ?_); (case side1 => exact sqi); (case side2 => exact sqj); rintro e w7 ⟨rfl, hi, hb, hk⟩; refine ⟨_, rfl, ?_⟩; replace HK := As_.mk (KeepBut.trans sqp hk (.inl rfl)); replace HB := As_.mk (hb); replace HI0 := As_.mk (hi); (try clear hb); (try clear hk); (try clear hi)))
    go_ret
    exact ⟨sqe, sqi, sqj, sqp⟩
  ·rw [if_neg c4] at H
   have c4b0 : decide (a1 ≤ 256) = false := decide_eq_false c4
   clear c4
   obtain ⟨⟨t319, t320, t321⟩, A8, H⟩ := bA H
   dsimp only at H
   obtain ⟨⟨t322, t323, t324⟩, A9, H⟩ := bA H
   dsimp only at H
   obtain ⟨⟨t325, t326, t327⟩, A10, H⟩ := bA H
   dsimp only at H
   by_cases c11 : a1 = 0
   ·rw [if_pos c11] at H
    exact absurd H (by simp)
   ·rw [if_neg c11] at H
    have c11b0 : (a1 == 0) = false := beq_eq_false_iff_ne.mpr c11
    have c11b1 : (a1 != 0) = true := bne_iff_ne.mpr c11
    simp only [Option.some.injEq, Prod.mk.injEq] at H
    obtain ⟨rfl, rfl, rfl⟩ := H
    go_enter Try.func105, Try.ntmps105
    go_wp2_with (first | ((with_reducible refine gate_callee (f := 125) rfl ?_); refine goesL_ (some 17) rfl rfl Try.func125 sqk rfl #[.pointer (some ⟨g, 0, none⟩)] rfl sqm ?_; (with_reducible refine (spec_l1Byte.calls g s0_0 s0_1 s0_2 t319 t320 t321 w0 _ ?side1 ?side2 A8.out).mono ?_); (case side1 => exact sqi); (case side2 => exact sqj); rintro e w12 ⟨rfl, hi, hb, hk⟩; refine ⟨_, rfl, ?_⟩; replace HK := As_.mk (KeepBut.trans sqp hk (.inl rfl)); replace HB := As_.mk (hb); replace HI0 := As_.mk (hi); (try clear hb); (try clear hk); (try clear hi)) | ((with_reducible refine gate_callee (f := 125) rfl ?_); refine goesL_ (some 19) rfl rfl Try.func125 sqk rfl #[.pointer (some ⟨g, 0, none⟩)] rfl sqm ?_; (with_reducible refine (spec_l1Byte.calls g s0_0 t320 t321 t322 t323 t324 w0 _ ?side1 ?side2 A9.out).mono ?_); (case side1 => exact sqi); (case side2 => exact sqj); rintro e w13 ⟨rfl, hi, hb, hk⟩; refine ⟨_, rfl, ?_⟩; replace HK := As_.mk (KeepBut.trans sqp hk (.inl rfl)); replace HB := As_.mk (hb); replace HI0 := As_.mk (hi); (try clear hb); (try clear hk); (try clear hi)) | ((with_reducible refine gate_callee (f := 125) rfl ?_); refine goesL_ (some 21) rfl rfl Try.func125 sqk rfl #[.pointer (some ⟨g, 0, none⟩)] rfl sqm ?_; (with_reducible refine (spec_l1Byte.calls g s0_0 t323 t324 t325 t326 t327 w0 _ ?side1 ?side2 A10.out).mono ?_); (case side1 => exact sqi); (case side2 => exact sqj); rintro e w14 ⟨rfl, hi, hb, hk⟩; refine ⟨_, rfl, ?_⟩; replace HK := As_.mk (KeepBut.trans sqp hk (.inl rfl)); replace HB := As_.mk (hb); replace HI0 := As_.mk (hi); (try clear hb); (try clear hk); (try clear hi)))
    go_ret
    exact ⟨sqe, sqi, sqj, sqp⟩

/-! ### spec_l1Int: function 120 -/
def spec_l1Int.f (s0_0 : List Int) (s0_1 : Int) (s0_2 : Int) (l1 : List Int) : Option (Int × Int × Int) := (spec_l1Below.f s0_0 s0_1 s0_2 (l1.length : Int)).bind fun bt328 => (if 0 ≤ bt328.1 then (if bt328.1 < (l1.length : Int) then (some (rd l1 bt328.1, bt328.2.1, bt328.2.2)) else (none)) else (none))
set_option maxHeartbeats 8000000 in
set_option maxRecDepth 100000 in
theorem spec_l1Int.calls (g : Nat) (s0_0 : List Int) (s0_1 : Int) (s0_2 : Int) (A1 : Option Addr) (c1 : Nat) (l1 : List Int) (r1 : Int) (r2 : Int) (r3 : Int) (w0 w : World) (hI : IsS125 w0 w g s0_0 s0_1 s0_2) (hB : Below w0.heap.size w0 w) (hr1 : Kd.C (Kd.int .i64) w A1 l1.length l1) (hc1 : l1.length ≤ c1) (hf1 : ∀ ad, A1 = some ad → 0 < l1.length → ad.block ≠ g) (h : spec_l1Int.f s0_0 s0_1 s0_2 l1 = some (r1, r2, r3)) :
  Calls Try.prog 120 #[.pointer (some ⟨g, 0, none⟩), .slice A1 l1.length c1] w fun e w' => e = .returned (.int .i64 r1) ∧ IsS125 w0 w' g s0_0 r2 r3 ∧ Below w0.heap.size w0 w' ∧ KeepBut w w' g none := by
 have HR1 := As_.mk hr1
 have HC1 := As_.mk hc1
 clear hr1 hc1
 have HI0 := As_.mk hI
 have HK := As_.mk (KeepBut.refl w g none)
 have HL := As_.mk hB.size
 clear hI
 have HW0 := As_.mk hB.size
 have HB := As_.mk hB
 clear hB
 have H : ((spec_l1Below.f s0_0 s0_1 s0_2 (l1.length : Int)).bind fun bt328 => (if 0 ≤ bt328.1 then (if bt328.1 < (l1.length : Int) then (some (rd l1 bt328.1, bt328.2.1, bt328.2.2)) else (none)) else (none))) = some (r1, r2, r3) := h
 clear h
 obtain ⟨⟨t328, t329, t330⟩, A3, H⟩ := bA H
 dsimp only at H
 by_cases c4 : 0 ≤ t328
 ·rw [if_pos c4] at H
  have c4b0 : decide (0 ≤ t328) = true := decide_eq_true c4
  clear c4
  by_cases c5 : t328 < (l1.length : Int)
  ·rw [if_pos c5] at H
   have c5b0 : decide (t328 < (l1.length : Int)) = true := decide_eq_true c5
   clear c5
   simp only [Option.some.injEq, Prod.mk.injEq] at H
   obtain ⟨rfl, rfl, rfl⟩ := H
   go_enter Try.func120, Try.ntmps120
   go_wp2_with (first | ((with_reducible refine gate_callee (f := 105) rfl ?_); refine goesL_ (some 9) rfl rfl Try.func105 sqk rfl #[.pointer (some ⟨g, 0, none⟩), .int .i64 (l1.length : Int)] rfl sqm ?_; (with_reducible refine (spec_l1Below.calls g s0_0 s0_1 s0_2 (l1.length : Int) t328 t329 t330 w0 _ ?side1 ?side2 A3.out).mono ?_); (case side1 => exact sqi); (case side2 => exact sqj); rintro e w6 ⟨rfl, hi, hb, hk⟩; refine ⟨_, rfl, ?_⟩; replace HK := As_.mk (KeepBut.trans sqp hk (.inl rfl)); replace HB := As_.mk (hb); replace HI0 := As_.mk (hi); (try clear hb); (try clear hk); (try clear hi); have p331 : 0 ≤ (t328 : Int) := of_decide_eq_true sqs; have q331 : t328 < (l1.length : Int) := of_decide_eq_true sqs; obtain ⟨ad331, e331, hx331_0⟩ := Kd.at_int HR1.out t328 p331 q331; cases e331; replace hx331_0 := keep_cell HK.out hx331_0 (by first | (rw [add_block]; exact hf1 _ rfl (by omega)) | exact hf1 _ rfl (by omega) | exact hf1 ad331 rfl (by omega)); replace p331 := eq_true p331; replace q331 := eq_true q331))
   go_ret
   exact ⟨sqe, sqi, sqj, sqp⟩
  ·rw [if_neg c5] at H
   exact absurd H (by simp)
 ·rw [if_neg c4] at H
  exact absurd H (by simp)

/-! ### spec_DrawIsIssuer: function 99 -/
def spec_DrawIsIssuer.f (k : Nat) (l0 : List Int) : Option (Int × List Int × Int) := (spec_l1New.f k l0).bind fun bt333 => ((spec_l8Issuers.f).bind fun t337 => ((spec_l1Below.f bt333.1 bt333.2.1 bt333.2.2 3).bind fun bt340 => (if 0 ≤ bt340.1 then (if bt340.1 < (t337.length : Int) then ((spec_l1Below.f bt333.1 bt340.2.1 bt340.2.2 6).bind fun bt345 => (if bt345.1 = 0 then ((spec_l1Int.f bt333.1 bt345.2.1 bt345.2.2 (([(-1), 10] : List Int))).bind fun bt351 => (some (bt351.1, (rd_T48 t337 bt340.1).f1, (rd_T48 t337 bt340.1).f2))) else (if bt345.1 = 1 then ((some (([] : List Int) : List Int)).bind fun y354 => (if y354.length + ((rd_T48 t337 bt340.1).f1).length < 17592186044416 then ((some (y354 ++ ((rd_T48 t337 bt340.1).f1) : List Int)).bind fun y357 => ((spec_l1Below.f bt333.1 bt345.2.1 bt345.2.2 6).bind fun bt360 => (if y357.length < 17592186044416 then (some ((rd_T48 t337 bt340.1).f0, (y357 ++ [bt360.1]), (rd_T48 t337 bt340.1).f2)) else (none)))) else (none))) else (if bt345.1 = 2 then ((spec_l1Int.f bt333.1 bt345.2.1 bt345.2.2 (([0, (-1)] : List Int))).bind fun bt369 => (some ((rd_T48 t337 bt340.1).f0, (rd_T48 t337 bt340.1).f1, bt369.1))) else (some ((rd_T48 t337 bt340.1).f0, (rd_T48 t337 bt340.1).f1, (rd_T48 t337 bt340.1).f2)))))) else (none)) else (none))))
theorem z99_0 {Q : Prop} (g : Q := by repeat (first | (with_reducible first | exact HB.out | apply bA_ | apply bN_ | apply bD_ | refine bS_ ?_ (IsS125.ge HI336.out) | refine bS_ ?_ GE332.out) | exact HB.out)) : Q := g
theorem z99_1 {Q : Prop} (g : Q := by repeat (first | (with_reducible first | exact HB.out | apply bA_ | apply bN_ | apply bD_ | refine bS_ ?_ (IsS125.ge HI336.out) | refine bS_ ?_ GE332.out | refine bS_ ?_ GE344.out) | exact HB.out)) : Q := g
theorem z99_2 {Q : Prop} (g : Q := by repeat (first | (with_reducible first | exact HI336.out | apply IsS125.alloc | apply IsS125.drewN | apply IsS125.drew | apply IsS125.set_1 | apply IsS125.set_2 | refine IsS125.far ?_ NB336_332.out _) | exact HI336.out)) : Q := g
theorem z99_3 {Q : Prop} (g : Q := by (with_reducible repeat (first | apply Kd.V_alloc | apply Kd.V_drewN | apply Kd.V_drew)); exact (Kd.V_mono (Kd.V_far (p := ⟨gb344, 2, none⟩) (Kd.V_far (p := ⟨gb344, 1, none⟩) (Kd.V_far (p := ⟨gb344, 0, none⟩) (Kd.V_mono HL343_1.out (fun k_ hk => (⟨hk, hk.2⟩ : _ ∧ k_ ≠ gb344))) (fun _ hk => hk.2) (.int .i64 ((rd_T48 t337 t340).f0))) (fun _ hk => hk.2) (.slice A343_1 ((rd_T48 t337 t340).f1).length c343_1)) (fun _ hk => hk.2) (.int .i64 ((rd_T48 t337 t340).f2))) (fun _ h_ => h_.1))) : Q := g
theorem z99_4 {Q : Prop} (g : Q := by (with_reducible repeat (first | apply Kd.N_alloc | apply Kd.N_drewN | apply Kd.N_drew)); exact (Kd.N_mono (Kd.N_far (p := ⟨gb344, 2, none⟩) (Kd.N_far (p := ⟨gb344, 1, none⟩) (Kd.N_far (p := ⟨gb344, 0, none⟩) (Kd.N_mono HO339.out (fun k_ hk => (⟨hk, hk.2⟩ : _ ∧ k_ ≠ gb344))) (fun _ hk => hk.2) (.int .i64 ((rd_T48 t337 t340).f0))) (fun _ hk => hk.2) (.slice A343_1 ((rd_T48 t337 t340).f1).length c343_1)) (fun _ hk => hk.2) (.int .i64 ((rd_T48 t337 t340).f2))) (fun _ h_ => h_.1))) : Q := g
theorem z99_5 {Q : Prop} (g : Q := by (with_reducible repeat (first | apply Kd.N_alloc | apply Kd.N_drewN | apply Kd.N_drew)); exact HO339.out) : Q := g
theorem z99_6 {Q : Prop} (g : Q := by (with_reducible repeat (first | apply Kd.V_alloc | apply Kd.V_drewN | apply Kd.V_drew)); exact HL343_1.out) : Q := g
theorem z99_7 {Q : Prop} (g : Q := by repeat (first | (with_reducible first | exact HI336.out | apply IsS125.alloc | apply IsS125.drewN | apply IsS125.drew | apply IsS125.set_1 | apply IsS125.set_2 | refine IsS125.far ?_ NB336_332.out _ | refine IsS125.far ?_ NB336_344.out _) | exact HI336.out)) : Q := g
theorem z99_8 {Q : Prop} (g : Q := by rw [hg]; exact Nat.ne_of_lt (IsS125.lt (show IsS125 w _ g336 t333 t341 t342 from by repeat (first | (with_reducible first | exact HI336.out | apply IsS125.alloc | apply IsS125.drewN | apply IsS125.drew | apply IsS125.set_1 | apply IsS125.set_2 | refine IsS125.far ?_ NB336_332.out _) | exact HI336.out)))) : Q := g
theorem z99_9 {Q : Prop} (g : Q := by rw [hg]; exact Nat.ne_of_gt (IsS125.lt (show IsS125 w _ g336 t333 t341 t342 from by repeat (first | (with_reducible first | exact HI336.out | apply IsS125.alloc | apply IsS125.drewN | apply IsS125.drew | apply IsS125.set_1 | apply IsS125.set_2 | refine IsS125.far ?_ NB336_332.out _) | exact HI336.out)))) : Q := g
theorem z99_10 {Q : Prop} (g : Q := by repeat (first | (with_reducible exact HR343_1.out) | (with_reducible refine Kd.C_alloc ?_ _) | (with_reducible refine Kd.C_drewN ?_ _) | (with_reducible refine Kd.C_drew ?_) | exact HR343_1.out)) : Q := g
theorem z99_11 {Q : Prop} (g : Q := by first | exact q343 | exact of_decide_eq_true sqs | (have e_ := (Kd.N_reads' HO339.out).1; omega)) : Q := g
theorem z99_12 {Q : Prop} (g : Q := by rw [hg]; exact (below_size z99_0)) : Q := g
set_option maxHeartbeats 8000000 in
set_option maxRecDepth 100000 in
theorem spec_DrawIsIssuer.calls (k : Nat) (A0 : Option Addr) (c0 : Nat) (l0 : List Int) (r1 : Int) (r2 : List Int) (r3 : Int) (w : World) (hr0 : Kd.C (Kd.int .u8) w A0 l0.length l0) (hc0 : l0.length ≤ c0) (h : spec_DrawIsIssuer.f k l0 = some (r1, r2, r3)) :
  Calls Try.prog 99 #[.slice A0 l0.length c0] w fun e w' => ∃ v1_ : Value, e = .returned (.agg #[.int .i64 r1, v1_, .int .i64 r3]) ∧ Kd.V (Kd.int .i64) 3 w' w.heap.size (fun k_ => (w.heap.size ≤ k_)) v1_ r2 ∧ Below w.heap.size w w' := by
 have hu48 := Try.underlying48
 have HR0 := As_.mk hr0
 have HC0 := As_.mk hc0
 clear hr0 hc0
 have HB := As_.mk (Below.refl w.heap.size w)
 have H : ((spec_l1New.f k l0).bind fun bt333 => ((spec_l8Issuers.f).bind fun t337 => ((spec_l1Below.f bt333.1 bt333.2.1 bt333.2.2 3).bind fun bt340 => (if 0 ≤ bt340.1 then (if bt340.1 < (t337.length : Int) then ((spec_l1Below.f bt333.1 bt340.2.1 bt340.2.2 6).bind fun bt345 => (if bt345.1 = 0 then ((spec_l1Int.f bt333.1 bt345.2.1 bt345.2.2 (([(-1), 10] : List Int))).bind fun bt351 => (some (bt351.1, (rd_T48 t337 bt340.1).f1, (rd_T48 t337 bt340.1).f2))) else (if bt345.1 = 1 then ((some (([] : List Int) : List Int)).bind fun y354 => (if y354.length + ((rd_T48 t337 bt340.1).f1).length < 17592186044416 then ((some (y354 ++ ((rd_T48 t337 bt340.1).f1) : List Int)).bind fun y357 => ((spec_l1Below.f bt333.1 bt345.2.1 bt345.2.2 6).bind fun bt360 => (if y357.length < 17592186044416 then (some ((rd_T48 t337 bt340.1).f0, (y357 ++ [bt360.1]), (rd_T48 t337 bt340.1).f2)) else (none)))) else (none))) else (if bt345.1 = 2 then ((spec_l1Int.f bt333.1 bt345.2.1 bt345.2.2 (([0, (-1)] : List Int))).bind fun bt369 => (some ((rd_T48 t337 bt340.1).f0, (rd_T48 t337 bt340.1).f1, bt369.1))) else (some ((rd_T48 t337 bt340.1).f0, (rd_T48 t337 bt340.1).f1, (rd_T48 t337 bt340.1).f2)))))) else (none)) else (none))))) = some (r1, r2, r3) := h
 clear h
 obtain ⟨⟨t333, t334, t335⟩, A2, H⟩ := bA H
 dsimp only at H
 obtain ⟨t337, A3, H⟩ := bA H
 obtain ⟨⟨t340, t341, t342⟩, A4, H⟩ := bA H
 dsimp only at H
 by_cases c5 : 0 ≤ t340
 ·rw [if_pos c5] at H
  have c5b0 : decide (0 ≤ t340) = true := decide_eq_true c5
  clear c5
  by_cases c6 : t340 < (t337.length : Int)
  ·rw [if_pos c6] at H
   have c6b0 : decide (t340 < (t337.length : Int)) = true := decide_eq_true c6
   clear c6
   obtain ⟨⟨t345, t346, t347⟩, A7, H⟩ := bA H
   dsimp only at H
   by_cases c8 : t345 = 0
   ·rw [if_pos c8] at H
    have c8b0 : (t345 == 0) = true := beq_iff_eq.mpr c8
    have c8b1 : (t345 != 0) = false := bne_eq_false_iff_eq.mpr c8
    clear c8
    obtain ⟨y348, hy348⟩ : ∃ y_ : List Int, y_ = (([(-1), 10] : List Int)) := ⟨_, rfl⟩
    replace H : ((spec_l1Int.f t333 t346 t347 y348).bind fun bt351 => (some (bt351.1, (rd_T48 t337 t340).f1, (rd_T48 t337 t340).f2))) = some (r1, r2, r3) := by first | (rw [hy348]; with_reducible exact H) | (have H2_ := (Option.bind_some _ _).symm.trans H; rw [hy348]; with_reducible exact H2_) | (have H2_ := (Option.bind_some _ _).symm.trans H; with_reducible exact H2_) | with_reducible exact H | (rw [hy348]; exact H) | exact H
    have Ny348 := As_.mk hy348
    clear hy348
    obtain ⟨⟨t351, t352, t353⟩, A9, H⟩ := bA H
    dsimp only at H
    simp only [Option.some.injEq, Prod.mk.injEq] at H
    obtain ⟨rfl, rfl, rfl⟩ := H
    go_enter Try.func99, Try.ntmps99
    go_wp2_with (first | ((with_reducible refine gate_dst (N := 2) rfl ?_); refine bx (N := 2) (cs := #[.int .i64 0, .slice none 0 0, .int .i64 0]) (t := 48) ?_; intro gb332 hg w10 hbox hb; have BK332 := As_.mk (hbox); have GW332 := As_.mk ((by rw [hg]; exact (below_size sqh) : w.heap.size ≤ gb332)); have GE332 := As_.mk ((by rw [hg]; exact (below_size sqh) : w.heap.size ≤ gb332)); replace HB := As_.mk (below_step sqh hb); clear hb hbox hg) | ((with_reducible refine gate_callee (f := 98) rfl ?_); refine goesL_ (some 6) rfl rfl Try.func98 sqk rfl #[.slice A0 l0.length c0] rfl sqm ?_; (with_reducible refine (spec_l1New.calls k _ _ l0 t333 t334 t335 w _ ?side1 ?side2 ?side3 A2.out).mono ?_); (case side1 => exact sqh); (case side2 => exact HR0.out); (case side3 => exact HC0.out); rintro e w11 ⟨g336, rfl, hi, hb, hb2⟩; refine ⟨_, rfl, ?_⟩; replace HB := As_.mk (hb); have HI336 := As_.mk (hi); have NB336_332 := As_.mk (IsS125.ne_blk hi (blk_below (bo BK332) hb2) (by decide)); have NB332_336 := As_.mk (Ne.symm (IsS125.ne_blk hi (blk_below (bo BK332) hb2) (by decide))); replace BK332 := As_.mk (blk_below (bo BK332) hb2); (try clear hb); (try clear hb2); (try clear hi)) | ((with_reducible refine gate_callee (f := 101) rfl ?_); refine goesL_ (some 7) rfl rfl Try.func101 sqk rfl #[] rfl sqm ?_; (with_reducible refine (spec_l8Issuers.calls  t337 _ A3.out).mono ?_); rintro e w12 ⟨v338, rfl, ho0, hb⟩; refine ⟨_, rfl, ?_⟩; have HO339 := As_.mk (Kd.N_lower (Kd.N_mono (ok' := fun k_ => (w.heap.size ≤ k_) ∧ k_ ≠ gb332 ∧ k_ ≠ g336) ho0 (fun k_ hk_ => ⟨(Nat.le_trans (below_size z99_0) hk_), (Kd.freshB (bo BK332) k_ hk_), (IsS125.fresh z99_2 k_ hk_)⟩)) (below_size z99_0)); replace BK332 := As_.mk (blk_below (bo BK332) hb); replace HB := As_.mk (below_step z99_0 hb); replace HI336 := As_.mk (IsS125.below z99_2 hb); (try clear hb); (try clear ho0)) | ((with_reducible refine gate_callee (f := 105) rfl ?_); refine goesL_ (some 9) rfl rfl Try.func105 sqk rfl #[.pointer (some ⟨g336, 0, none⟩), .int .i64 3] rfl sqm ?_; (with_reducible refine (spec_l1Below.calls g336 t333 t334 t335 3 t340 t341 t342 w _ ?side1 ?side2 A4.out).mono ?_); (case side1 => repeat (first | (with_reducible first | exact HI336.out | apply IsS125.alloc | apply IsS125.drewN | apply IsS125.drew | apply IsS125.set_1 | apply IsS125.set_2 | refine IsS125.far ?_ NB336_332.out _) | exact HI336.out)); (case side2 => exact z99_0); rintro e w13 ⟨rfl, hi, hb, hk⟩; refine ⟨_, rfl, ?_⟩; replace BK332 := As_.mk (KeepBut.blk hk (g' := gb332) (o := .cells #[.int .i64 0, .slice none 0 0, .int .i64 0] 48 (0, 0)) (sqb BK332.out) NB332_336.out (by simp)); replace HO339 := As_.mk (Kd.N_mono (Kd.N_keep (Kd.N_mono (ok := fun k_ => (((w.heap.size ≤ k_)) ∧ (k_ ≠ gb332 ∧ k_ ≠ g336))) z99_5 (fun k_ hk_ => (⟨hk_, hk_.2.2⟩ : _ ∧ k_ ≠ g336))) hk (fun _ h => h.2)) (fun _ h => h.1)); replace HB := As_.mk (hb); replace HI336 := As_.mk (hi); (try clear hb); (try clear hk); (try clear hi); obtain ⟨Ao14, co14, eo14⟩ := Kd.N_slice HO339.out; subst eo14; have p343 : 0 ≤ (t340 : Int) := of_decide_eq_true sqs; have q343 : t340 < (t337.length : Int) := of_decide_eq_true sqs; obtain ⟨ad343, A343_1, c343_1, e343, hx343_0, hx343_1, hx343_2, hl343_1, hi343_1⟩ := at_T48 (Kd.N_reads' HO339.out).2.2 t340 p343 q343; cases e343; obtain ⟨ce343, hce343, hMe343, hcc343⟩ := Kd.N_get HO339.out z48 t340 p343 z99_11; obtain ⟨ua343_1, uc343_1, rfl, ul343_1, ge343_1⟩ := k48_openF hMe343; have hv343_1 := hcc343 1 _ rfl; rw [add_field _ _ 1 (by omega)] at hv343_1; replace hv343_1 := Option.some.inj (hv343_1.symm.trans hx343_1); injection hv343_1 with hva_ hvn_ hvc_; rw [hva_] at ge343_1; rw [hvc_] at ul343_1; have HL343_1 := As_.mk (show Kd.V (Kd.int .i64) 3 _ w.heap.size _ _ ((rd_T48 t337 t340).f1) from Kd.V_mk ul343_1 ge343_1); clear hva_ hvn_ hvc_ ge343_1 ul343_1; clear hcc343 hce343; have HR343_1 := As_.mk hi343_1; have HC343_1 := As_.mk hl343_1; clear hi343_1 hl343_1; replace p343 := eq_true p343; replace q343 := eq_true q343) | ((with_reducible refine gate_dst (N := 4) rfl ?_); refine bx (N := 4) (cs := #[.int .i64 0, .slice none 0 0, .int .i64 0]) (t := 48) ?_; intro gb344 hg w15 hbox hb; replace HO339 := As_.mk (Kd.N_below (Kd.N_elderB z99_5 gb344 (Nat.le_of_eq hg.symm)) hb); replace HL343_1 := As_.mk (Kd.V_below (Kd.V_elderB z99_6 gb344 (Nat.le_of_eq hg.symm)) hb); replace HR343_1 := As_.mk (Kd.C_below z99_10 hb); have BK344 := As_.mk (hbox); have GW344 := As_.mk ((z99_12 : w.heap.size ≤ gb344)); have GE344 := As_.mk ((z99_12 : w.heap.size ≤ gb344)); replace HB := As_.mk (below_step z99_0 hb); have NB332_344 := As_.mk ((by rw [hg]; exact Nat.ne_of_lt (blk_lt (bo BK332)) : gb332 ≠ gb344)); have NB344_332 := As_.mk ((by rw [hg]; exact Nat.ne_of_gt (blk_lt (bo BK332)) : gb344 ≠ gb332)); replace BK332 := As_.mk (blk_below (bo BK332) hb); have NB336_344 := As_.mk ((z99_8 : g336 ≠ gb344)); have NB344_336 := As_.mk ((z99_9 : gb344 ≠ g336)); replace HI336 := As_.mk (IsS125.below z99_2 hb); clear hb hbox hg; have hnb16 := NB344_332.out; have hnc16 := NB332_344.out; have hnb17 := NB344_336.out; have hnc17 := NB336_344.out; obtain ⟨hcz18_0, hcz18_1, hcz18_2, hfz18_0, hfz18_1, hfz18_2⟩ := sd3 BK344.out) | ((with_reducible refine gate_callee (f := 105) rfl ?_); refine goesL_ (some 13) rfl rfl Try.func105 sqk rfl #[.pointer (some ⟨g336, 0, none⟩), .int .i64 6] rfl sqm ?_; (with_reducible refine (spec_l1Below.calls g336 t333 t341 t342 6 t345 t346 t347 w _ ?side1 ?side2 A7.out).mono ?_); (case side1 => repeat (first | (with_reducible first | exact HI336.out | apply IsS125.alloc | apply IsS125.drewN | apply IsS125.drew | apply IsS125.set_1 | apply IsS125.set_2 | refine IsS125.far ?_ NB336_332.out _ | refine IsS125.far ?_ NB336_344.out _) | exact HI336.out)); (case side2 => exact z99_1); rintro e w19 ⟨rfl, hi, hb, hk⟩; refine ⟨_, rfl, ?_⟩; replace BK332 := As_.mk (KeepBut.blk hk (g' := gb332) (o := .cells #[.int .i64 0, .slice none 0 0, .int .i64 0] 48 (0, 0)) (bp BK332) NB332_336.out (by simp)); replace HO339 := As_.mk (Kd.N_mono (Kd.N_keep (Kd.N_mono (ok := fun k_ => ((((w.heap.size ≤ k_)) ∧ (k_ ≠ gb332 ∧ k_ ≠ g336)) ∧ k_ ≠ gb344)) z99_4 (fun k_ hk_ => (⟨hk_, hk_.1.2.2⟩ : _ ∧ k_ ≠ g336))) hk (fun _ h => h.2)) (fun _ h => h.1)); replace HL343_1 := As_.mk (Kd.V_mono (Kd.V_keep (Kd.V_mono (ok := fun k_ => (((((w.heap.size ≤ k_)) ∧ (k_ ≠ gb332 ∧ k_ ≠ g336)) ∧ some k_ ≠ (.slice (some ad343) t337.length co14 : Value).ownBlock) ∧ k_ ≠ gb344)) z99_3 (fun k_ hk_ => (⟨hk_, hk_.1.1.2.2⟩ : _ ∧ k_ ≠ g336))) hk (fun _ h => h.2)) (fun _ h => h.1)); replace BK344 := As_.mk (KeepBut.blk hk (g' := gb344) (o := .cells #[.int .i64 ((rd_T48 t337 t340).f0), .slice A343_1 ((rd_T48 t337 t340).f1).length c343_1, .int .i64 ((rd_T48 t337 t340).f2)] 48 (0, 0)) (bp BK344) NB344_336.out (by simp)); replace HB := As_.mk (hb); replace HI336 := As_.mk (hi); (try clear hb); (try clear hk); (try clear hi)) | ((with_reducible refine gate_dst (N := 17) rfl ?_); refine Kd.R_lit (Kd.int .i64) _ 3 ?hg (N := 17) ?hd (xs := ([(-1), 10] : List Int)) (inner := [.int .i64 (-1), .int .i64 10]) (ok := fun _ => True) (okp := fun _ => True) ?hr ?hp (fun _ hk => hk) trivial (Below.refl _ _) (Nat.le_refl _) (by simp) ?_; (case hd => rfl); (case hg => rfl); (case hr => first | (go_simp; done) | (go_simp; rfl)); (case hp => exact (Reps.one (show Kd.M (Kd.int .i64) _ _ _ (-1) [.int .i64 (-1)] from rfl) (Reps.one (show Kd.M (Kd.int .i64) _ _ _ 10 [.int .i64 10] from rfl) (Reps.none _ _)))); intro v349 w20 ho21 hb hg_ hnew_; clear hg_ hnew_; (first | rw [← Ny348.out] at ho21 | (simp only [Int.reduceToNat] at ho21; rw [← Ny348.out] at ho21)); replace HO339 := As_.mk (Kd.N_elder' z99_5 (Kd.R_base ho21) hb); replace HL343_1 := As_.mk (Kd.V_elder' z99_6 (Kd.R_base ho21) hb); have HO350 := As_.mk (Kd.R_lower (Kd.R_newM (M := fun k_ => (w.heap.size ≤ k_)) ho21 (below_size z99_1) (fun k_ h_ => h_)) (below_size z99_1)); replace BK332 := As_.mk (blk_below (bo BK332) hb); replace BK344 := As_.mk (blk_below (bo BK344) hb); replace HB := As_.mk (below_step z99_1 hb); replace HI336 := As_.mk (IsS125.below z99_7 hb); clear hb ho21; obtain ⟨Ao22, co22, eo22⟩ := Kd.R_slice HO350.out; subst eo22) | ((with_reducible refine gate_callee (f := 120) rfl ?_); refine goesL_ (some 18) rfl rfl Try.func120 sqk rfl #[.pointer (some ⟨g336, 0, none⟩), .slice Ao22 y348.length co22] rfl sqm ?_; (with_reducible refine (spec_l1Int.calls g336 t333 t346 t347 _ _ y348 t351 t352 t353 w _ ?side1 ?side2 ?side3 ?side4 ?side5 A9.out).mono ?_); (case side1 => repeat (first | (with_reducible first | exact HI336.out | apply IsS125.alloc | apply IsS125.drewN | apply IsS125.drew | apply IsS125.set_1 | apply IsS125.set_2 | refine IsS125.far ?_ NB336_332.out _ | refine IsS125.far ?_ NB336_344.out _) | exact HI336.out)); (case side2 => exact z99_1); (case side3 => repeat (first | exact (Kd.R_reads' HO350.out).2.2 | (with_reducible refine Kd.C_alloc ?_ _) | (with_reducible refine Kd.C_drewN ?_ _) | (with_reducible refine Kd.C_drew ?_))); (case side4 => exact (Kd.R_reads' HO350.out).2.1); (case side5 => exact far_slice (IsS125.own_ne HI336.out HO350.out (by decide))); rintro e w23 ⟨rfl, hi, hb, hk⟩; refine ⟨_, rfl, ?_⟩; replace BK332 := As_.mk (KeepBut.blk hk (g' := gb332) (o := .cells #[.int .i64 0, .slice none 0 0, .int .i64 0] 48 (0, 0)) (sqb BK332.out) NB332_336.out (by simp)); replace HO339 := As_.mk (Kd.N_mono (Kd.N_keep (Kd.N_mono (ok := fun k_ => (((((w.heap.size ≤ k_)) ∧ (k_ ≠ gb332 ∧ k_ ≠ g336)) ∧ k_ ≠ gb344) ∧ some k_ ≠ (.slice Ao22 y348.length co22 : Value).ownBlock)) z99_5 (fun k_ hk_ => (⟨hk_, hk_.1.1.2.2⟩ : _ ∧ k_ ≠ g336))) hk (fun _ h => h.2)) (fun _ h => h.1)); replace HL343_1 := As_.mk (Kd.V_mono (Kd.V_keep (Kd.V_mono (ok := fun k_ => ((((((w.heap.size ≤ k_)) ∧ (k_ ≠ gb332 ∧ k_ ≠ g336)) ∧ some k_ ≠ (.slice (some ad343) t337.length co14 : Value).ownBlock) ∧ k_ ≠ gb344) ∧ some k_ ≠ (.slice Ao22 y348.length co22 : Value).ownBlock)) z99_6 (fun k_ hk_ => (⟨hk_, hk_.1.1.1.2.2⟩ : _ ∧ k_ ≠ g336))) hk (fun _ h => h.2)) (fun _ h => h.1)); replace BK344 := As_.mk (KeepBut.blk hk (g' := gb344) (o := .cells #[.int .i64 ((rd_T48 t337 t340).f0), .slice A343_1 ((rd_T48 t337 t340).f1).length c343_1, .int .i64 ((rd_T48 t337 t340).f2)] 48 (0, 0)) (sqb BK344.out) NB344_336.out (by simp)); replace HO350 := As_.mk (Kd.R_mono (Kd.R_keep (IsS125.apart (show IsS125 w _ g336 t333 t346 t347 from by repeat (first | (with_reducible first | exact HI336.out | apply IsS125.alloc | apply IsS125.drewN | apply IsS125.drew | apply IsS125.set_1 | apply IsS125.set_2 | refine IsS125.far ?_ NB336_332.out _ | refine IsS125.far ?_ NB336_344.out _) | exact HI336.out)) (sqq HO350.out) (by decide)) hk (fun _ h => h.2)) (fun _ h => h.1)); replace HB := As_.mk (hb); replace HI336 := As_.mk (hi); (try clear hb); (try clear hk); (try clear hi); obtain ⟨hcz24_0, hcz24_1, hcz24_2, hfz24_0, hfz24_1, hfz24_2⟩ := sd3 BK344.out; have hnb25 := NB332_336.out; have hnc25 := NB336_332.out; obtain ⟨hcz26_0, hcz26_1, hcz26_2, hfz26_0, hfz26_1, hfz26_2⟩ := sd3 BK332.out))
    refine bodyPost_ret (results_cell_row rfl _ _ gb332 48 #[.int .i64 t351, .slice A343_1 ((rd_T48 t337 t340).f1).length c343_1, .int .i64 ((rd_T48 t337 t340).f2)] (0, 0) _ rfl ?_ Try.underlying48 rfl sqk) rfl ?_; exact bp BK332
    exact ⟨_, sqe, by (with_reducible repeat (first | apply Kd.V_alloc | apply Kd.V_drewN | apply Kd.V_drew)); exact Kd.V_mono (Kd.V_far (p := ⟨gb332, 2, none⟩) (Kd.V_far (p := ⟨gb332, 1, none⟩) (Kd.V_far (p := ⟨gb332, 0, none⟩) (Kd.V_far (p := ⟨gb344, 0, none⟩) (Kd.V_mono (Kd.V_mono HL343_1.out (fun k_ hk => (⟨hk, hk.1.2⟩ : _ ∧ k_ ≠ gb344))) (fun k_ hk => (⟨hk, hk.1.1.1.1.2.1⟩ : _ ∧ k_ ≠ gb332))) (fun _ hk => hk.1.2) (.int .i64 t351)) (fun _ hk => hk.2) (.int .i64 t351)) (fun _ hk => hk.2) (.slice A343_1 ((rd_T48 t337 t340).f1).length c343_1)) (fun _ hk => hk.2) (.int .i64 ((rd_T48 t337 t340).f2))) (fun _ hk => hk.1.1.1.1.1.1), by repeat (first | (with_reducible first | exact HB.out | apply bA_ | apply bN_ | apply bD_ | refine bS_ ?_ (IsS125.ge HI336.out) | refine bS_ ?_ GE332.out | refine bS_ ?_ GE344.out) | exact HB.out)⟩
   ·rw [if_neg c8] at H
    have c8b0 : (t345 == 0) = false := beq_eq_false_iff_ne.mpr c8
    have c8b1 : (t345 != 0) = true := bne_iff_ne.mpr c8
    by_cases c27 : t345 = 1
    ·rw [if_pos c27] at H
     have c27b0 : (t345 == 1) = true := beq_iff_eq.mpr c27
     have c27b1 : (t345 != 1) = false := bne_eq_false_iff_eq.mpr c27
     clear c27
     obtain ⟨y354, hy354⟩ : ∃ y_ : List Int, y_ = (([] : List Int)) := ⟨_, rfl⟩
     replace H : (if y354.length + ((rd_T48 t337 t340).f1).length < 17592186044416 then ((some (y354 ++ ((rd_T48 t337 t340).f1) : List Int)).bind fun y357 => ((spec_l1Below.f t333 t346 t347 6).bind fun bt360 => (if y357.length < 17592186044416 then (some ((rd_T48 t337 t340).f0, (y357 ++ [bt360.1]), (rd_T48 t337 t340).f2)) else (none)))) else (none)) = some (r1, r2, r3) := by first | (rw [hy354]; with_reducible exact H) | (have H2_ := (Option.bind_some _ _).symm.trans H; rw [hy354]; with_reducible exact H2_) | (have H2_ := (Option.bind_some _ _).symm.trans H; with_reducible exact H2_) | with_reducible exact H | (rw [hy354]; exact H) | exact H
     have Ny354 := As_.mk hy354
     clear hy354
     by_cases c28 : y354.length + ((rd_T48 t337 t340).f1).length < 17592186044416
     ·rw [if_pos c28] at H
      have LMc28 := As_.mk c28
      clear c28
      obtain ⟨y357, hy357⟩ : ∃ y_ : List Int, y_ = (y354 ++ ((rd_T48 t337 t340).f1)) := ⟨_, rfl⟩
      replace H : ((spec_l1Below.f t333 t346 t347 6).bind fun bt360 => (if y357.length < 17592186044416 then (some ((rd_T48 t337 t340).f0, (y357 ++ [bt360.1]), (rd_T48 t337 t340).f2)) else (none))) = some (r1, r2, r3) := by first | (rw [hy357]; with_reducible exact H) | (have H2_ := (Option.bind_some _ _).symm.trans H; rw [hy357]; with_reducible exact H2_) | (have H2_ := (Option.bind_some _ _).symm.trans H; with_reducible exact H2_) | with_reducible exact H | (rw [hy357]; exact H) | exact H
      have Ny357 := As_.mk hy357
      clear hy357
      obtain ⟨⟨t360, t361, t362⟩, A29, H⟩ := bA H
      dsimp only at H
      by_cases c30 : y357.length < 17592186044416
      ·rw [if_pos c30] at H
       have LMc30 := As_.mk c30
       clear c30
       obtain ⟨y363, hy363⟩ : ∃ y_ : List Int, y_ = (y357 ++ [t360]) := ⟨_, rfl⟩
       replace H : (some ((rd_T48 t337 t340).f0, y363, (rd_T48 t337 t340).f2)) = some (r1, r2, r3) := by first | (rw [hy363]; with_reducible exact H) | (have H2_ := (Option.bind_some _ _).symm.trans H; rw [hy363]; with_reducible exact H2_) | (have H2_ := (Option.bind_some _ _).symm.trans H; with_reducible exact H2_) | with_reducible exact H | (rw [hy363]; exact H) | exact H
       have Ny363 := As_.mk hy363
       clear hy363
       simp only [Option.some.injEq, Prod.mk.injEq] at H
       obtain ⟨rfl, rfl, rfl⟩ := H
       go_enter Try.func99, Try.ntmps99
       go_wp2_with (first | ((with_reducible refine gate_dst (N := 2) rfl ?_); refine bx (N := 2) (cs := #[.int .i64 0, .slice none 0 0, .int .i64 0]) (t := 48) ?_; intro gb332 hg w31 hbox hb; have BK332 := As_.mk (hbox); have GW332 := As_.mk ((by rw [hg]; exact (below_size sqh) : w.heap.size ≤ gb332)); have GE332 := As_.mk ((by rw [hg]; exact (below_size sqh) : w.heap.size ≤ gb332)); replace HB := As_.mk (below_step sqh hb); clear hb hbox hg) | ((with_reducible refine gate_callee (f := 98) rfl ?_); refine goesL_ (some 6) rfl rfl Try.func98 sqk rfl #[.slice A0 l0.length c0] rfl sqm ?_; (with_reducible refine (spec_l1New.calls k _ _ l0 t333 t334 t335 w _ ?side1 ?side2 ?side3 A2.out).mono ?_); (case side1 => exact sqh); (case side2 => exact HR0.out); (case side3 => exact HC0.out); rintro e w32 ⟨g336, rfl, hi, hb, hb2⟩; refine ⟨_, rfl, ?_⟩; replace HB := As_.mk (hb); have HI336 := As_.mk (hi); have NB336_332 := As_.mk (IsS125.ne_blk hi (blk_below (bo BK332) hb2) (by decide)); have NB332_336 := As_.mk (Ne.symm (IsS125.ne_blk hi (blk_below (bo BK332) hb2) (by decide))); replace BK332 := As_.mk (blk_below (bo BK332) hb2); (try clear hb); (try clear hb2); (try clear hi)) | ((with_reducible refine gate_callee (f := 101) rfl ?_); refine goesL_ (some 7) rfl rfl Try.func101 sqk rfl #[] rfl sqm ?_; (with_reducible refine (spec_l8Issuers.calls  t337 _ A3.out).mono ?_); rintro e w33 ⟨v338, rfl, ho0, hb⟩; refine ⟨_, rfl, ?_⟩; have HO339 := As_.mk (Kd.N_lower (Kd.N_mono (ok' := fun k_ => (w.heap.size ≤ k_) ∧ k_ ≠ gb332 ∧ k_ ≠ g336) ho0 (fun k_ hk_ => ⟨(Nat.le_trans (below_size z99_0) hk_), (Kd.freshB (bo BK332) k_ hk_), (IsS125.fresh z99_2 k_ hk_)⟩)) (below_size z99_0)); replace BK332 := As_.mk (blk_below (bo BK332) hb); replace HB := As_.mk (below_step z99_0 hb); replace HI336 := As_.mk (IsS125.below z99_2 hb); (try clear hb); (try clear ho0)) | ((with_reducible refine gate_callee (f := 105) rfl ?_); refine goesL_ (some 9) rfl rfl Try.func105 sqk rfl #[.pointer (some ⟨g336, 0, none⟩), .int .i64 3] rfl sqm ?_; (with_reducible refine (spec_l1Below.calls g336 t333 t334 t335 3 t340 t341 t342 w _ ?side1 ?side2 A4.out).mono ?_); (case side1 => repeat (first | (with_reducible first | exact HI336.out | apply IsS125.alloc | apply IsS125.drewN | apply IsS125.drew | apply IsS125.set_1 | apply IsS125.set_2 | refine IsS125.far ?_ NB336_332.out _) | exact HI336.out)); (case side2 => exact z99_0); rintro e w34 ⟨rfl, hi, hb, hk⟩; refine ⟨_, rfl, ?_⟩; replace BK332 := As_.mk (KeepBut.blk hk (g' := gb332) (o := .cells #[.int .i64 0, .slice none 0 0, .int .i64 0] 48 (0, 0)) (sqb BK332.out) NB332_336.out (by simp)); replace HO339 := As_.mk (Kd.N_mono (Kd.N_keep (Kd.N_mono (ok := fun k_ => (((w.heap.size ≤ k_)) ∧ (k_ ≠ gb332 ∧ k_ ≠ g336))) z99_5 (fun k_ hk_ => (⟨hk_, hk_.2.2⟩ : _ ∧ k_ ≠ g336))) hk (fun _ h => h.2)) (fun _ h => h.1)); replace HB := As_.mk (hb); replace HI336 := As_.mk (hi); (try clear hb); (try clear hk); (try clear hi); obtain ⟨Ao35, co35, eo35⟩ := Kd.N_slice HO339.out; subst eo35; have p343 : 0 ≤ (t340 : Int) := of_decide_eq_true sqs; have q343 : t340 < (t337.length : Int) := of_decide_eq_true sqs; obtain ⟨ad343, A343_1, c343_1, e343, hx343_0, hx343_1, hx343_2, hl343_1, hi343_1⟩ := at_T48 (Kd.N_reads' HO339.out).2.2 t340 p343 q343; cases e343; obtain ⟨ce343, hce343, hMe343, hcc343⟩ := Kd.N_get HO339.out z48 t340 p343 z99_11; obtain ⟨ua343_1, uc343_1, rfl, ul343_1, ge343_1⟩ := k48_openF hMe343; have hv343_1 := hcc343 1 _ rfl; rw [add_field _ _ 1 (by omega)] at hv343_1; replace hv343_1 := Option.some.inj (hv343_1.symm.trans hx343_1); injection hv343_1 with hva_ hvn_ hvc_; rw [hva_] at ge343_1; rw [hvc_] at ul343_1; have HL343_1 := As_.mk (show Kd.V (Kd.int .i64) 3 _ w.heap.size _ _ ((rd_T48 t337 t340).f1) from Kd.V_mk ul343_1 ge343_1); clear hva_ hvn_ hvc_ ge343_1 ul343_1; clear hcc343 hce343; have HR343_1 := As_.mk hi343_1; have HC343_1 := As_.mk hl343_1; clear hi343_1 hl343_1; replace p343 := eq_true p343; replace q343 := eq_true q343) | ((with_reducible refine gate_dst (N := 4) rfl ?_); refine bx (N := 4) (cs := #[.int .i64 0, .slice none 0 0, .int .i64 0]) (t := 48) ?_; intro gb344 hg w36 hbox hb; replace HO339 := As_.mk (Kd.N_below (Kd.N_elderB z99_5 gb344 (Nat.le_of_eq hg.symm)) hb); replace HL343_1 := As_.mk (Kd.V_below (Kd.V_elderB z99_6 gb344 (Nat.le_of_eq hg.symm)) hb); replace HR343_1 := As_.mk (Kd.C_below z99_10 hb); have BK344 := As_.mk (hbox); have GW344 := As_.mk ((z99_12 : w.heap.size ≤ gb344)); have GE344 := As_.mk ((z99_12 : w.heap.size ≤ gb344)); replace HB := As_.mk (below_step z99_0 hb); have NB332_344 := As_.mk ((by rw [hg]; exact Nat.ne_of_lt (blk_lt (bo BK332)) : gb332 ≠ gb344)); have NB344_332 := As_.mk ((by rw [hg]; exact Nat.ne_of_gt (blk_lt (bo BK332)) : gb344 ≠ gb332)); replace BK332 := As_.mk (blk_below (bo BK332) hb); have NB336_344 := As_.mk ((z99_8 : g336 ≠ gb344)); have NB344_336 := As_.mk ((z99_9 : gb344 ≠ g336)); replace HI336 := As_.mk (IsS125.below z99_2 hb); clear hb hbox hg; have hnb37 := NB344_332.out; have hnc37 := NB332_344.out; have hnb38 := NB344_336.out; have hnc38 := NB336_344.out; obtain ⟨hcz39_0, hcz39_1, hcz39_2, hfz39_0, hfz39_1, hfz39_2⟩ := sd3 BK344.out) | ((with_reducible refine gate_callee (f := 105) rfl ?_); refine goesL_ (some 13) rfl rfl Try.func105 sqk rfl #[.pointer (some ⟨g336, 0, none⟩), .int .i64 6] rfl sqm ?_; (with_reducible refine (spec_l1Below.calls g336 t333 t341 t342 6 t345 t346 t347 w _ ?side1 ?side2 A7.out).mono ?_); (case side1 => repeat (first | (with_reducible first | exact HI336.out | apply IsS125.alloc | apply IsS125.drewN | apply IsS125.drew | apply IsS125.set_1 | apply IsS125.set_2 | refine IsS125.far ?_ NB336_332.out _ | refine IsS125.far ?_ NB336_344.out _) | exact HI336.out)); (case side2 => exact z99_1); rintro e w40 ⟨rfl, hi, hb, hk⟩; refine ⟨_, rfl, ?_⟩; replace BK332 := As_.mk (KeepBut.blk hk (g' := gb332) (o := .cells #[.int .i64 0, .slice none 0 0, .int .i64 0] 48 (0, 0)) (bp BK332) NB332_336.out (by simp)); replace HO339 := As_.mk (Kd.N_mono (Kd.N_keep (Kd.N_mono (ok := fun k_ => ((((w.heap.size ≤ k_)) ∧ (k_ ≠ gb332 ∧ k_ ≠ g336)) ∧ k_ ≠ gb344)) z99_4 (fun k_ hk_ => (⟨hk_, hk_.1.2.2⟩ : _ ∧ k_ ≠ g336))) hk (fun _ h => h.2)) (fun _ h => h.1)); replace HL343_1 := As_.mk (Kd.V_mono (Kd.V_keep (Kd.V_mono (ok := fun k_ => (((((w.heap.size ≤ k_)) ∧ (k_ ≠ gb332 ∧ k_ ≠ g336)) ∧ some k_ ≠ (.slice (some ad343) t337.length co35 : Value).ownBlock) ∧ k_ ≠ gb344)) z99_3 (fun k_ hk_ => (⟨hk_, hk_.1.1.2.2⟩ : _ ∧ k_ ≠ g336))) hk (fun _ h => h.2)) (fun _ h => h.1)); replace BK344 := As_.mk (KeepBut.blk hk (g' := gb344) (o := .cells #[.int .i64 ((rd_T48 t337 t340).f0), .slice A343_1 ((rd_T48 t337 t340).f1).length c343_1, .int .i64 ((rd_T48 t337 t340).f2)] 48 (0, 0)) (bp BK344) NB344_336.out (by simp)); replace HB := As_.mk (hb); replace HI336 := As_.mk (hi); (try clear hb); (try clear hk); (try clear hi)) | ((with_reducible refine gate_dst (N := 22) rfl ?_); refine Kd.R_lit (Kd.int .i64) _ 3 ?hg (N := 22) ?hd (xs := ([] : List Int)) (inner := []) (ok := fun _ => True) (okp := fun _ => True) ?hr ?hp (fun _ hk => hk) trivial (Below.refl _ _) (Nat.le_refl _) (by simp) ?_; (case hd => rfl); (case hg => rfl); (case hr => first | (go_simp; done) | (go_simp; rfl)); (case hp => exact (Reps.none _ _)); intro v355 w41 ho42 hb hg_ hnew_; clear hg_ hnew_; (first | rw [← Ny354.out] at ho42 | (simp only [Int.reduceToNat] at ho42; rw [← Ny354.out] at ho42)); replace HO339 := As_.mk (Kd.N_elder' z99_5 (Kd.R_base ho42) hb); replace HL343_1 := As_.mk (Kd.V_elder' z99_6 (Kd.R_base ho42) hb); have HO356 := As_.mk (Kd.R_lower (Kd.R_newM (M := fun k_ => (w.heap.size ≤ k_)) ho42 (below_size z99_1) (fun k_ h_ => h_)) (below_size z99_1)); replace BK332 := As_.mk (blk_below (bo BK332) hb); replace BK344 := As_.mk (blk_below (bo BK344) hb); replace HB := As_.mk (below_step z99_1 hb); replace HI336 := As_.mk (IsS125.below z99_7 hb); clear hb ho42; obtain ⟨hcz43_0, hcz43_1, hcz43_2, hfz43_0, hfz43_1, hfz43_2⟩ := sd3 BK344.out) | ((with_reducible refine gate_builtin (b := .append) (xs := #[.tmp 22, .tmp 24]) rfl ?_); at_builtin; refine Kd.R_append_rows (Kd.int .i64) (w0 := w) w.heap.size rfl (.tmp 22) (.tmp 24) 43 3 (.int .i64 0) 8 rfl Try.underlying43 info3 rfl (by decide) (by omega) v355 y354 ((rd_T48 t337 t340).f1) _ _ _ (fun k_ => (w.heap.size ≤ k_)) (fun _ => False) rfl rfl ?aO ?aR (fun _ _ h => h) (fun _ h => h.elim) ?aF ?aB ?aS ?aL ?_; (case aR => repeat (first | exact ((Kd.V_reads' z99_6).2.2) | (with_reducible refine Kd.C_alloc ?_ _) | (with_reducible refine Kd.C_drewN ?_ _) | (with_reducible refine Kd.C_drew ?_))); (case aB => exact z99_1); (case aF => exact (fun k_ hk => (Nat.le_trans (below_size z99_1) hk))); (case aO => exact (by (with_reducible repeat (first | apply Kd.R_alloc | apply Kd.R_drewN | apply Kd.R_drew)); exact Kd.R_mono HO356.out (fun _ hk => hk.1))); (case aS => exact (below_size z99_1)); (case aL => have := LMc28.out; omega); intro v358 w44 ho hb hg hat; rw [← Ny357.out] at ho; replace BK332 := As_.mk (blk_grown (bo BK332) hg (Kd.R_ne HO356.out BK332.out (by decide))); replace HI336 := As_.mk (IsS125.grown z99_7 hg (IsS125.own_ne HI336.out HO356.out (by decide))); replace HO339 := As_.mk (Kd.N_afterv (ok := (fun k_ => (w.heap.size ≤ k_) ∧ k_ ≠ gb332 ∧ k_ ≠ g336 ∧ k_ ≠ gb344)) (by (with_reducible repeat (first | apply Kd.N_alloc | apply Kd.N_drewN | apply Kd.N_drew)); exact Kd.N_mono HO339.out (fun _ hk => ⟨⟨hk.1.1.1, ⟨hk.1.1.2.1, ⟨hk.1.1.2.2, hk.1.2⟩⟩⟩, hk.2⟩)) hg hat); replace HL343_1 := As_.mk (Kd.V_afterv (ok := (fun k_ => (w.heap.size ≤ k_) ∧ some k_ ≠ (.slice (some ad343) t337.length co35 : Value).ownBlock ∧ k_ ≠ gb332 ∧ k_ ≠ g336 ∧ k_ ≠ gb344)) (by (with_reducible repeat (first | apply Kd.V_alloc | apply Kd.V_drewN | apply Kd.V_drew)); exact Kd.V_mono HL343_1.out (fun _ hk => ⟨⟨hk.1.1.1.1, ⟨hk.1.1.2, ⟨hk.1.1.1.2.1, ⟨hk.1.1.1.2.2, hk.1.2⟩⟩⟩⟩, hk.2⟩)) hg hat); replace BK344 := As_.mk (blk_grown (bo BK344) hg (Kd.R_ne HO356.out BK344.out (by decide))); replace HB := As_.mk (hb); have HO359 := As_.mk (ho); clear HO356; clear ho hb hg hat) | ((with_reducible refine gate_callee (f := 105) rfl ?_); refine goesL_ (some 27) rfl rfl Try.func105 sqk rfl #[.pointer (some ⟨g336, 0, none⟩), .int .i64 6] rfl sqm ?_; (with_reducible refine (spec_l1Below.calls g336 t333 t346 t347 6 t360 t361 t362 w _ ?side1 ?side2 A29.out).mono ?_); (case side1 => repeat (first | (with_reducible first | exact HI336.out | apply IsS125.alloc | apply IsS125.drewN | apply IsS125.drew | apply IsS125.set_1 | apply IsS125.set_2 | refine IsS125.far ?_ NB336_332.out _ | refine IsS125.far ?_ NB336_344.out _) | exact HI336.out)); (case side2 => exact z99_1); rintro e w45 ⟨rfl, hi, hb, hk⟩; refine ⟨_, rfl, ?_⟩; replace BK332 := As_.mk (KeepBut.blk hk (g' := gb332) (o := .cells #[.int .i64 0, .slice none 0 0, .int .i64 0] 48 (0, 0)) (sqb BK332.out) NB332_336.out (by simp)); replace HO339 := As_.mk (Kd.N_mono (Kd.N_keep (Kd.N_mono (ok := fun k_ => ((((w.heap.size ≤ k_)) ∧ (k_ ≠ gb332 ∧ (k_ ≠ g336 ∧ k_ ≠ gb344))) ∧ some k_ ≠ (v358 : Value).ownBlock)) z99_5 (fun k_ hk_ => (⟨hk_, hk_.1.2.2.1⟩ : _ ∧ k_ ≠ g336))) hk (fun _ h => h.2)) (fun _ h => h.1)); replace HL343_1 := As_.mk (Kd.V_mono (Kd.V_keep (Kd.V_mono (ok := fun k_ => ((((w.heap.size ≤ k_)) ∧ (some k_ ≠ (.slice (some ad343) t337.length co35 : Value).ownBlock ∧ (k_ ≠ gb332 ∧ (k_ ≠ g336 ∧ k_ ≠ gb344)))) ∧ some k_ ≠ (v358 : Value).ownBlock)) z99_6 (fun k_ hk_ => (⟨hk_, hk_.1.2.2.2.1⟩ : _ ∧ k_ ≠ g336))) hk (fun _ h => h.2)) (fun _ h => h.1)); replace BK344 := As_.mk (KeepBut.blk hk (g' := gb344) (o := .cells #[.int .i64 ((rd_T48 t337 t340).f0), .slice A343_1 ((rd_T48 t337 t340).f1).length c343_1, .int .i64 ((rd_T48 t337 t340).f2)] 48 (0, 0)) (sqb BK344.out) NB344_336.out (by simp)); replace HO359 := As_.mk (Kd.R_mono (Kd.R_keep (IsS125.apart (show IsS125 w _ g336 t333 t346 t347 from by repeat (first | (with_reducible first | exact HI336.out | apply IsS125.alloc | apply IsS125.drewN | apply IsS125.drew | apply IsS125.set_1 | apply IsS125.set_2 | refine IsS125.far ?_ NB336_332.out _ | refine IsS125.far ?_ NB336_344.out _) | exact HI336.out)) (sqq HO359.out) (by decide)) hk (fun _ h => h.2)) (fun _ h => h.1)); replace HB := As_.mk (hb); replace HI336 := As_.mk (hi); (try clear hb); (try clear hk); (try clear hi)) | ((with_reducible refine gate_builtin (b := .append) (xs := #[.tmp 25, .tmp 28]) rfl ?_); at_builtin; refine Kd.R_append (Kd.int .i64) (w0 := w) w.heap.size rfl (.tmp 25) (.tmp 28) 43 3 (.int .i64 0) 8 rfl Try.underlying43 info3 rfl (by decide) (by omega) v358 y357 t360 [.int .i64 t360] (fun k_ => (w.heap.size ≤ k_)) (fun _ => False) rfl rfl ?aP (fun _ hk => hk.elim) ?aF ?aO ?aB ?aS ?aL ?_; (case aP => exact rfl); (case aB => exact z99_1); (case aF => exact (fun k_ hk => (Nat.le_trans (below_size z99_1) hk))); (case aO => exact (sqq HO359.out)); (case aS => exact (below_size z99_1)); (case aL => have := LMc30.out; omega); intro v364 w46 ho hb hg hat; rw [← Ny363.out] at ho; replace BK332 := As_.mk (blk_grown (bo BK332) hg (Kd.R_ne HO359.out BK332.out (by decide))); replace HI336 := As_.mk (IsS125.grown z99_7 hg (IsS125.own_ne HI336.out HO359.out (by decide))); replace HO339 := As_.mk (Kd.N_afterv (ok := (fun k_ => (w.heap.size ≤ k_) ∧ k_ ≠ gb332 ∧ k_ ≠ g336 ∧ k_ ≠ gb344)) z99_5 hg hat); replace HL343_1 := As_.mk (Kd.V_afterv (ok := (fun k_ => (w.heap.size ≤ k_) ∧ some k_ ≠ (.slice (some ad343) t337.length co35 : Value).ownBlock ∧ k_ ≠ gb332 ∧ k_ ≠ g336 ∧ k_ ≠ gb344)) z99_6 hg hat); replace BK344 := As_.mk (blk_grown (bo BK344) hg (Kd.R_ne HO359.out BK344.out (by decide))); replace HB := As_.mk (hb); have HO365 := As_.mk (ho); clear HO359; clear ho hb hg hat; obtain ⟨Ao47, co47, eo47⟩ := Kd.R_slice HO365.out; subst eo47; obtain ⟨hcz48_0, hcz48_1, hcz48_2, hfz48_0, hfz48_1, hfz48_2⟩ := sd3 BK344.out; have hnb49 := NB332_336.out; have hnc49 := NB336_332.out; obtain ⟨hcz50_0, hcz50_1, hcz50_2, hfz50_0, hfz50_1, hfz50_2⟩ := sd3 BK332.out))
       refine bodyPost_ret (results_cell_row rfl _ _ gb332 48 #[.int .i64 ((rd_T48 t337 t340).f0), .slice Ao47 y363.length co47, .int .i64 ((rd_T48 t337 t340).f2)] (0, 0) _ rfl ?_ Try.underlying48 rfl sqk) rfl ?_; exact bp BK332
       exact ⟨_, sqe, Kd.R_V (by (with_reducible repeat (first | apply Kd.R_alloc | apply Kd.R_drewN | apply Kd.R_drew)); exact Kd.R_mono (Kd.R_far (p := ⟨gb332, 2, none⟩) (Kd.R_far (p := ⟨gb332, 1, none⟩) (Kd.R_far (p := ⟨gb332, 0, none⟩) (Kd.R_far (p := ⟨gb344, 1, none⟩) (Kd.R_types (Kd.R_types HO365.out BK344.out (by decide)) BK332.out (by decide)) (fun _ hk => hk.1.2) (.slice Ao47 y363.length co47)) (fun _ hk => hk.2) (.int .i64 ((rd_T48 t337 t340).f0))) (fun _ hk => hk.2) (.slice Ao47 y363.length co47)) (fun _ hk => hk.2) (.int .i64 ((rd_T48 t337 t340).f2))) (fun _ hk => hk.1.1)), by repeat (first | (with_reducible first | exact HB.out | apply bA_ | apply bN_ | apply bD_ | refine bS_ ?_ (IsS125.ge HI336.out) | refine bS_ ?_ GE332.out | refine bS_ ?_ GE344.out) | exact HB.out)⟩
      ·rw [if_neg c30] at H
       exact absurd H (by simp)
     ·rw [if_neg c28] at H
      exact absurd H (by simp)
    ·rw [if_neg c27] at H
     have c27b0 : (t345 == 1) = false := beq_eq_false_iff_ne.mpr c27
     have c27b1 : (t345 != 1) = true := bne_iff_ne.mpr c27
     by_cases c51 : t345 = 2
     ·rw [if_pos c51] at H
      have c51b0 : (t345 == 2) = true := beq_iff_eq.mpr c51
      have c51b1 : (t345 != 2) = false := bne_eq_false_iff_eq.mpr c51
      clear c51
      obtain ⟨y366, hy366⟩ : ∃ y_ : List Int, y_ = (([0, (-1)] : List Int)) := ⟨_, rfl⟩
      replace H : ((spec_l1Int.f t333 t346 t347 y366).bind fun bt369 => (some ((rd_T48 t337 t340).f0, (rd_T48 t337 t340).f1, bt369.1))) = some (r1, r2, r3) := by first | (rw [hy366]; with_reducible exact H) | (have H2_ := (Option.bind_some _ _).symm.trans H; rw [hy366]; with_reducible exact H2_) | (have H2_ := (Option.bind_some _ _).symm.trans H; with_reducible exact H2_) | with_reducible exact H | (rw [hy366]; exact H) | exact H
      have Ny366 := As_.mk hy366
      clear hy366
      obtain ⟨⟨t369, t370, t371⟩, A52, H⟩ := bA H
      dsimp only at H
      simp only [Option.some.injEq, Prod.mk.injEq] at H
      obtain ⟨rfl, rfl, rfl⟩ := H
      go_enter Try.func99, Try.ntmps99
      go_wp2_with (first | ((with_reducible refine gate_dst (N := 2) rfl ?_); refine bx (N := 2) (cs := #[.int .i64 0, .slice none 0 0, .int .i64 0]) (t := 48) ?_; intro gb332 hg w53 hbox hb; have BK332 := As_.mk (hbox); have GW332 := As_.mk ((by rw [hg]; exact (below_size sqh) : w.heap.size ≤ gb332)); have GE332 := As_.mk ((by rw [hg]; exact (below_size sqh) : w.heap.size ≤ gb332)); replace HB := As_.mk (below_step sqh hb); clear hb hbox hg) | ((with_reducible refine gate_callee (f := 98) rfl ?_); refine goesL_ (some 6) rfl rfl Try.func98 sqk rfl #[.slice A0 l0.length c0] rfl sqm ?_; (with_reducible refine (spec_l1New.calls k _ _ l0 t333 t334 t335 w _ ?side1 ?side2 ?side3 A2.out).mono ?_); (case side1 => exact sqh); (case side2 => exact HR0.out); (case side3 => exact HC0.out); rintro e w54 ⟨g336, rfl, hi, hb, hb2⟩; refine ⟨_, rfl, ?_⟩; replace HB := As_.mk (hb); have HI336 := As_.mk (hi); have NB336_332 := As_.mk (IsS125.ne_blk hi (blk_below (bo BK332) hb2) (by decide)); have NB332_336 := As_.mk (Ne.symm (IsS125.ne_blk hi (blk_below (bo BK332) hb2) (by decide))); replace BK332 := As_.mk (blk_below (bo BK332) hb2); (try clear hb); (try clear hb2); (try clear hi)) | ((with_reducible refine gate_callee (f := 101) rfl ?_); refine goesL_ (some 7) rfl rfl Try.func101 sqk rfl #[] rfl sqm ?_; (with_reducible refine (spec_l8Issuers.calls  t337 _ A3.out).mono ?_); rintro e w55 ⟨v338, rfl, ho0, hb⟩; refine ⟨_, rfl, ?_⟩; have HO339 := As_.mk (Kd.N_lower (Kd.N_mono (ok' := fun k_ => (w.heap.size ≤ k_) ∧ k_ ≠ gb332 ∧ k_ ≠ g336) ho0 (fun k_ hk_ => ⟨(Nat.le_trans (below_size z99_0) hk_), (Kd.freshB (bo BK332) k_ hk_), (IsS125.fresh z99_2 k_ hk_)⟩)) (below_size z99_0)); replace BK332 := As_.mk (blk_below (bo BK332) hb); replace HB := As_.mk (below_step z99_0 hb); replace HI336 := As_.mk (IsS125.below z99_2 hb); (try clear hb); (try clear ho0)) | ((with_reducible refine gate_callee (f := 105) rfl ?_); refine goesL_ (some 9) rfl rfl Try.func105 sqk rfl #[.pointer (some ⟨g336, 0, none⟩), .int .i64 3] rfl sqm ?_; (with_reducible refine (spec_l1Below.calls g336 t333 t334 t335 3 t340 t341 t342 w _ ?side1 ?side2 A4.out).mono ?_); (case side1 => repeat (first | (with_reducible first | exact HI336.out | apply IsS125.alloc | apply IsS125.drewN | apply IsS125.drew | apply IsS125.set_1 | apply IsS125.set_2 | refine IsS125.far ?_ NB336_332.out _) | exact HI336.out)); (case side2 => exact z99_0); rintro e w56 ⟨rfl, hi, hb, hk⟩; refine ⟨_, rfl, ?_⟩; replace BK332 := As_.mk (KeepBut.blk hk (g' := gb332) (o := .cells #[.int .i64 0, .slice none 0 0, .int .i64 0] 48 (0, 0)) (sqb BK332.out) NB332_336.out (by simp)); replace HO339 := As_.mk (Kd.N_mono (Kd.N_keep (Kd.N_mono (ok := fun k_ => (((w.heap.size ≤ k_)) ∧ (k_ ≠ gb332 ∧ k_ ≠ g336))) z99_5 (fun k_ hk_ => (⟨hk_, hk_.2.2⟩ : _ ∧ k_ ≠ g336))) hk (fun _ h => h.2)) (fun _ h => h.1)); replace HB := As_.mk (hb); replace HI336 := As_.mk (hi); (try clear hb); (try clear hk); (try clear hi); obtain ⟨Ao57, co57, eo57⟩ := Kd.N_slice HO339.out; subst eo57; have p343 : 0 ≤ (t340 : Int) := of_decide_eq_true sqs; have q343 : t340 < (t337.length : Int) := of_decide_eq_true sqs; obtain ⟨ad343, A343_1, c343_1, e343, hx343_0, hx343_1, hx343_2, hl343_1, hi343_1⟩ := at_T48 (Kd.N_reads' HO339.out).2.2 t340 p343 q343; cases e343; obtain ⟨ce343, hce343, hMe343, hcc343⟩ := Kd.N_get HO339.out z48 t340 p343 z99_11; obtain ⟨ua343_1, uc343_1, rfl, ul343_1, ge343_1⟩ := k48_openF hMe343; have hv343_1 := hcc343 1 _ rfl; rw [add_field _ _ 1 (by omega)] at hv343_1; replace hv343_1 := Option.some.inj (hv343_1.symm.trans hx343_1); injection hv343_1 with hva_ hvn_ hvc_; rw [hva_] at ge343_1; rw [hvc_] at ul343_1; have HL343_1 := As_.mk (show Kd.V (Kd.int .i64) 3 _ w.heap.size _ _ ((rd_T48 t337 t340).f1) from Kd.V_mk ul343_1 ge343_1); clear hva_ hvn_ hvc_ ge343_1 ul343_1; clear hcc343 hce343; have HR343_1 := As_.mk hi343_1; have HC343_1 := As_.mk hl343_1; clear hi343_1 hl343_1; replace p343 := eq_true p343; replace q343 := eq_true q343) | ((with_reducible refine gate_dst (N := 4) rfl ?_); refine bx (N := 4) (cs := #[.int .i64 0, .slice none 0 0, .int .i64 0]) (t := 48) ?_; intro gb344 hg w58 hbox hb; replace HO339 := As_.mk (Kd.N_below (Kd.N_elderB z99_5 gb344 (Nat.le_of_eq hg.symm)) hb); replace HL343_1 := As_.mk (Kd.V_below (Kd.V_elderB z99_6 gb344 (Nat.le_of_eq hg.symm)) hb); replace HR343_1 := As_.mk (Kd.C_below z99_10 hb); have BK344 := As_.mk (hbox); have GW344 := As_.mk ((z99_12 : w.heap.size ≤ gb344)); have GE344 := As_.mk ((z99_12 : w.heap.size ≤ gb344)); replace HB := As_.mk (below_step z99_0 hb); have NB332_344 := As_.mk ((by rw [hg]; exact Nat.ne_of_lt (blk_lt (bo BK332)) : gb332 ≠ gb344)); have NB344_332 := As_.mk ((by rw [hg]; exact Nat.ne_of_gt (blk_lt (bo BK332)) : gb344 ≠ gb332)); replace BK332 := As_.mk (blk_below (bo BK332) hb); have NB336_344 := As_.mk ((z99_8 : g336 ≠ gb344)); have NB344_336 := As_.mk ((z99_9 : gb344 ≠ g336)); replace HI336 := As_.mk (IsS125.below z99_2 hb); clear hb hbox hg; have hnb59 := NB344_332.out; have hnc59 := NB332_344.out; have hnb60 := NB344_336.out; have hnc60 := NB336_344.out; obtain ⟨hcz61_0, hcz61_1, hcz61_2, hfz61_0, hfz61_1, hfz61_2⟩ := sd3 BK344.out) | ((with_reducible refine gate_callee (f := 105) rfl ?_); refine goesL_ (some 13) rfl rfl Try.func105 sqk rfl #[.pointer (some ⟨g336, 0, none⟩), .int .i64 6] rfl sqm ?_; (with_reducible refine (spec_l1Below.calls g336 t333 t341 t342 6 t345 t346 t347 w _ ?side1 ?side2 A7.out).mono ?_); (case side1 => repeat (first | (with_reducible first | exact HI336.out | apply IsS125.alloc | apply IsS125.drewN | apply IsS125.drew | apply IsS125.set_1 | apply IsS125.set_2 | refine IsS125.far ?_ NB336_332.out _ | refine IsS125.far ?_ NB336_344.out _) | exact HI336.out)); (case side2 => exact z99_1); rintro e w62 ⟨rfl, hi, hb, hk⟩; refine ⟨_, rfl, ?_⟩; replace BK332 := As_.mk (KeepBut.blk hk (g' := gb332) (o := .cells #[.int .i64 0, .slice none 0 0, .int .i64 0] 48 (0, 0)) (bp BK332) NB332_336.out (by simp)); replace HO339 := As_.mk (Kd.N_mono (Kd.N_keep (Kd.N_mono (ok := fun k_ => ((((w.heap.size ≤ k_)) ∧ (k_ ≠ gb332 ∧ k_ ≠ g336)) ∧ k_ ≠ gb344)) z99_4 (fun k_ hk_ => (⟨hk_, hk_.1.2.2⟩ : _ ∧ k_ ≠ g336))) hk (fun _ h => h.2)) (fun _ h => h.1)); replace HL343_1 := As_.mk (Kd.V_mono (Kd.V_keep (Kd.V_mono (ok := fun k_ => (((((w.heap.size ≤ k_)) ∧ (k_ ≠ gb332 ∧ k_ ≠ g336)) ∧ some k_ ≠ (.slice (some ad343) t337.length co57 : Value).ownBlock) ∧ k_ ≠ gb344)) z99_3 (fun k_ hk_ => (⟨hk_, hk_.1.1.2.2⟩ : _ ∧ k_ ≠ g336))) hk (fun _ h => h.2)) (fun _ h => h.1)); replace BK344 := As_.mk (KeepBut.blk hk (g' := gb344) (o := .cells #[.int .i64 ((rd_T48 t337 t340).f0), .slice A343_1 ((rd_T48 t337 t340).f1).length c343_1, .int .i64 ((rd_T48 t337 t340).f2)] 48 (0, 0)) (bp BK344) NB344_336.out (by simp)); replace HB := As_.mk (hb); replace HI336 := As_.mk (hi); (try clear hb); (try clear hk); (try clear hi)) | ((with_reducible refine gate_dst (N := 34) rfl ?_); refine Kd.R_lit (Kd.int .i64) _ 3 ?hg (N := 34) ?hd (xs := ([0, (-1)] : List Int)) (inner := [.int .i64 0, .int .i64 (-1)]) (ok := fun _ => True) (okp := fun _ => True) ?hr ?hp (fun _ hk => hk) trivial (Below.refl _ _) (Nat.le_refl _) (by simp) ?_; (case hd => rfl); (case hg => rfl); (case hr => first | (go_simp; done) | (go_simp; rfl)); (case hp => exact (Reps.one (show Kd.M (Kd.int .i64) _ _ _ 0 [.int .i64 0] from rfl) (Reps.one (show Kd.M (Kd.int .i64) _ _ _ (-1) [.int .i64 (-1)] from rfl) (Reps.none _ _)))); intro v367 w63 ho64 hb hg_ hnew_; clear hg_ hnew_; (first | rw [← Ny366.out] at ho64 | (simp only [Int.reduceToNat] at ho64; rw [← Ny366.out] at ho64)); replace HO339 := As_.mk (Kd.N_elder' z99_5 (Kd.R_base ho64) hb); replace HL343_1 := As_.mk (Kd.V_elder' z99_6 (Kd.R_base ho64) hb); have HO368 := As_.mk (Kd.R_lower (Kd.R_newM (M := fun k_ => (w.heap.size ≤ k_)) ho64 (below_size z99_1) (fun k_ h_ => h_)) (below_size z99_1)); replace BK332 := As_.mk (blk_below (bo BK332) hb); replace BK344 := As_.mk (blk_below (bo BK344) hb); replace HB := As_.mk (below_step z99_1 hb); replace HI336 := As_.mk (IsS125.below z99_7 hb); clear hb ho64; obtain ⟨Ao65, co65, eo65⟩ := Kd.R_slice HO368.out; subst eo65) | ((with_reducible refine gate_callee (f := 120) rfl ?_); refine goesL_ (some 35) rfl rfl Try.func120 sqk rfl #[.pointer (some ⟨g336, 0, none⟩), .slice Ao65 y366.length co65] rfl sqm ?_; (with_reducible refine (spec_l1Int.calls g336 t333 t346 t347 _ _ y366 t369 t370 t371 w _ ?side1 ?side2 ?side3 ?side4 ?side5 A52.out).mono ?_); (case side1 => repeat (first | (with_reducible first | exact HI336.out | apply IsS125.alloc | apply IsS125.drewN | apply IsS125.drew | apply IsS125.set_1 | apply IsS125.set_2 | refine IsS125.far ?_ NB336_332.out _ | refine IsS125.far ?_ NB336_344.out _) | exact HI336.out)); (case side2 => exact z99_1); (case side3 => repeat (first | exact (Kd.R_reads' HO368.out).2.2 | (with_reducible refine Kd.C_alloc ?_ _) | (with_reducible refine Kd.C_drewN ?_ _) | (with_reducible refine Kd.C_drew ?_))); (case side4 => exact (Kd.R_reads' HO368.out).2.1); (case side5 => exact far_slice (IsS125.own_ne HI336.out HO368.out (by decide))); rintro e w66 ⟨rfl, hi, hb, hk⟩; refine ⟨_, rfl, ?_⟩; replace BK332 := As_.mk (KeepBut.blk hk (g' := gb332) (o := .cells #[.int .i64 0, .slice none 0 0, .int .i64 0] 48 (0, 0)) (sqb BK332.out) NB332_336.out (by simp)); replace HO339 := As_.mk (Kd.N_mono (Kd.N_keep (Kd.N_mono (ok := fun k_ => (((((w.heap.size ≤ k_)) ∧ (k_ ≠ gb332 ∧ k_ ≠ g336)) ∧ k_ ≠ gb344) ∧ some k_ ≠ (.slice Ao65 y366.length co65 : Value).ownBlock)) z99_5 (fun k_ hk_ => (⟨hk_, hk_.1.1.2.2⟩ : _ ∧ k_ ≠ g336))) hk (fun _ h => h.2)) (fun _ h => h.1)); replace HL343_1 := As_.mk (Kd.V_mono (Kd.V_keep (Kd.V_mono (ok := fun k_ => ((((((w.heap.size ≤ k_)) ∧ (k_ ≠ gb332 ∧ k_ ≠ g336)) ∧ some k_ ≠ (.slice (some ad343) t337.length co57 : Value).ownBlock) ∧ k_ ≠ gb344) ∧ some k_ ≠ (.slice Ao65 y366.length co65 : Value).ownBlock)) z99_6 (fun k_ hk_ => (⟨hk_, hk_.1.1.1.2.2⟩ : _ ∧ k_ ≠ g336))) hk (fun _ h => h.2)) (fun _ h => h.1)); replace BK344 := As_.mk (KeepBut.blk hk (g' := gb344) (o := .cells #[.int .i64 ((rd_T48 t337 t340).f0), .slice A343_1 ((rd_T48 t337 t340).f1).length c343_1, .int .i64 ((rd_T48 t337 t340).f2)] 48 (0, 0)) (sqb BK344.out) NB344_336.out (by simp)); replace HO368 := As_.mk (Kd.R_mono (Kd.R_keep (IsS125.apart (show IsS125 w _ g336 t333 t346 t347 from by repeat (first | (with_reducible first | exact HI336.out | apply IsS125.alloc | apply IsS125.drewN | apply IsS125.drew | apply IsS125.set_1 | apply IsS125.set_2 | refine IsS125.far ?_ NB336_332.out _ | refine IsS125.far ?_ NB336_344.out _) | exact HI336.out)) (sqq HO368.out) (by decide)) hk (fun _ h => h.2)) (fun _ h => h.1)); replace HB := As_.mk (hb); replace HI336 := As_.mk (hi); (try clear hb); (try clear hk); (try clear hi); obtain ⟨hcz67_0, hcz67_1, hcz67_2, hfz67_0, hfz67_1, hfz67_2⟩ := sd3 BK344.out; have hnb68 := NB332_336.out; have hnc68 := NB336_332.out; obtain ⟨hcz69_0, hcz69_1, hcz69_2, hfz69_0, hfz69_1, hfz69_2⟩ := sd3 BK332.out))
      refine bodyPost_ret (results_cell_row rfl _ _ gb332 48 #[.int .i64 ((rd_T48 t337 t340).f0), .slice A343_1 ((rd_T48 t337 t340).f1).length c343_1, .int .i64 t369] (0, 0) _ rfl ?_ Try.underlying48 rfl sqk) rfl ?_; exact bp BK332
      exact ⟨_, sqe, by (with_reducible repeat (first | apply Kd.V_alloc | apply Kd.V_drewN | apply Kd.V_drew)); exact Kd.V_mono (Kd.V_far (p := ⟨gb332, 2, none⟩) (Kd.V_far (p := ⟨gb332, 1, none⟩) (Kd.V_far (p := ⟨gb332, 0, none⟩) (Kd.V_far (p := ⟨gb344, 2, none⟩) (Kd.V_mono (Kd.V_mono HL343_1.out (fun k_ hk => (⟨hk, hk.1.2⟩ : _ ∧ k_ ≠ gb344))) (fun k_ hk => (⟨hk, hk.1.1.1.1.2.1⟩ : _ ∧ k_ ≠ gb332))) (fun _ hk => hk.1.2) (.int .i64 t369)) (fun _ hk => hk.2) (.int .i64 ((rd_T48 t337 t340).f0))) (fun _ hk => hk.2) (.slice A343_1 ((rd_T48 t337 t340).f1).length c343_1)) (fun _ hk => hk.2) (.int .i64 t369)) (fun _ hk => hk.1.1.1.1.1.1), by repeat (first | (with_reducible first | exact HB.out | apply bA_ | apply bN_ | apply bD_ | refine bS_ ?_ (IsS125.ge HI336.out) | refine bS_ ?_ GE332.out | refine bS_ ?_ GE344.out) | exact HB.out)⟩
     ·rw [if_neg c51] at H
      have c51b0 : (t345 == 2) = false := beq_eq_false_iff_ne.mpr c51
      have c51b1 : (t345 != 2) = true := bne_iff_ne.mpr c51
      simp only [Option.some.injEq, Prod.mk.injEq] at H
      obtain ⟨rfl, rfl, rfl⟩ := H
      go_enter Try.func99, Try.ntmps99
      go_wp2_with (first | ((with_reducible refine gate_dst (N := 2) rfl ?_); refine bx (N := 2) (cs := #[.int .i64 0, .slice none 0 0, .int .i64 0]) (t := 48) ?_; intro gb332 hg w70 hbox hb; have BK332 := As_.mk (hbox); have GW332 := As_.mk ((by rw [hg]; exact (below_size sqh) : w.heap.size ≤ gb332)); have GE332 := As_.mk ((by rw [hg]; exact (below_size sqh) : w.heap.size ≤ gb332)); replace HB := As_.mk (below_step sqh hb); clear hb hbox hg) | ((with_reducible refine gate_callee (f := 98) rfl ?_); refine goesL_ (some 6) rfl rfl Try.func98 sqk rfl #[.slice A0 l0.length c0] rfl sqm ?_; (with_reducible refine (spec_l1New.calls k _ _ l0 t333 t334 t335 w _ ?side1 ?side2 ?side3 A2.out).mono ?_); (case side1 => exact sqh); (case side2 => exact HR0.out); (case side3 => exact HC0.out); rintro e w71 ⟨g336, rfl, hi, hb, hb2⟩; refine ⟨_, rfl, ?_⟩; replace HB := As_.mk (hb); have HI336 := As_.mk (hi); have NB336_332 := As_.mk (IsS125.ne_blk hi (blk_below (bo BK332) hb2) (by decide)); have NB332_336 := As_.mk (Ne.symm (IsS125.ne_blk hi (blk_below (bo BK332) hb2) (by decide))); replace BK332 := As_.mk (blk_below (bo BK332) hb2); (try clear hb); (try clear hb2); (try clear hi)) | ((with_reducible refine gate_callee (f := 101) rfl ?_); refine goesL_ (some 7) rfl rfl Try.func101 sqk rfl #[] rfl sqm ?_; (with_reducible refine (spec_l8Issuers.calls  t337 _ A3.out).mono ?_); rintro e w72 ⟨v338, rfl, ho0, hb⟩; refine ⟨_, rfl, ?_⟩; have HO339 := As_.mk (Kd.N_lower (Kd.N_mono (ok' := fun k_ => (w.heap.size ≤ k_) ∧ k_ ≠ gb332 ∧ k_ ≠ g336) ho0 (fun k_ hk_ => ⟨(Nat.le_trans (below_size z99_0) hk_), (Kd.freshB (bo BK332) k_ hk_), (IsS125.fresh z99_2 k_ hk_)⟩)) (below_size z99_0)); replace BK332 := As_.mk (blk_below (bo BK332) hb); replace HB := As_.mk (below_step z99_0 hb); replace HI336 := As_.mk (IsS125.below z99_2 hb); (try clear hb); (try clear ho0)) | ((with_reducible refine gate_callee (f := 105) rfl ?_); refine goesL_ (some 9) rfl rfl Try.func105 sqk rfl #[.pointer (some ⟨g336, 0, none⟩), .int .i64 3] rfl sqm ?_; (with_reducible refine (spec_l1Below.calls g336 t333 t334 t335 3 t340 t341 t342 w _ ?side1 ?side2 A4.out).mono ?_); (case side1 => repeat (first | (with_reducible first | exact HI336.out | apply IsS125.alloc | apply IsS125.drewN | apply IsS125.drew | apply IsS125.set_1 | apply IsS125.set_2 | refine IsS125.far ?_ NB336_332.out _) | exact HI336.out)); (case side2 => exact z99_0); rintro e w73 ⟨rfl, hi, hb, hk⟩; refine ⟨_, rfl, ?_⟩; replace BK332 := As_.mk (KeepBut.blk hk (g' := gb332) (o := .cells #[.int .i64 0, .slice none 0 0, .int .i64 0] 48 (0, 0)) (sqb BK332.out) NB332_336.out (by simp)); replace HO339 := As_.mk (Kd.N_mono (Kd.N_keep (Kd.N_mono (ok := fun k_ => (((w.heap.size ≤ k_)) ∧ (k_ ≠ gb332 ∧ k_ ≠ g336))) z99_5 (fun k_ hk_ => (⟨hk_, hk_.2.2⟩ : _ ∧ k_ ≠ g336))) hk (fun _ h => h.2)) (fun _ h => h.1)); replace HB := As_.mk (hb); replace HI336 := As_.mk (hi); (try clear hb); (try clear hk); (try clear hi); obtain ⟨Ao74, co74, eo74⟩ := Kd.N_slice HO339.out; subst eo74; have p343 : 0 ≤ (t340 : Int) := of_decide_eq_true sqs; have q343 : t340 < (t337.length : Int) := of_decide_eq_true sqs; obtain ⟨ad343, A343_1, c343_1, e343, hx343_0, hx343_1, hx343_2, hl343_1, hi343_1⟩ := at_T48 (Kd.N_reads' HO339.out).2.2 t340 p343 q343; cases e343; obtain ⟨ce343, hce343, hMe343, hcc343⟩ := Kd.N_get HO339.out z48 t340 p343 z99_11; obtain ⟨ua343_1, uc343_1, rfl, ul343_1, ge343_1⟩ := k48_openF hMe343; have hv343_1 := hcc343 1 _ rfl; rw [add_field _ _ 1 (by omega)] at hv343_1; replace hv343_1 := Option.some.inj (hv343_1.symm.trans hx343_1); injection hv343_1 with hva_ hvn_ hvc_; rw [hva_] at ge343_1; rw [hvc_] at ul343_1; have HL343_1 := As_.mk (show Kd.V (Kd.int .i64) 3 _ w.heap.size _ _ ((rd_T48 t337 t340).f1) from Kd.V_mk ul343_1 ge343_1); clear hva_ hvn_ hvc_ ge343_1 ul343_1; clear hcc343 hce343; have HR343_1 := As_.mk hi343_1; have HC343_1 := As_.mk hl343_1; clear hi343_1 hl343_1; replace p343 := eq_true p343; replace q343 := eq_true q343) | ((with_reducible refine gate_dst (N := 4) rfl ?_); refine bx (N := 4) (cs := #[.int .i64 0, .slice none 0 0, .int .i64 0]) (t := 48) ?_; intro gb344 hg w75 hbox hb; replace HO339 := As_.mk (Kd.N_below (Kd.N_elderB z99_5 gb344 (Nat.le_of_eq hg.symm)) hb); replace HL343_1 := As_.mk (Kd.V_below (Kd.V_elderB z99_6 gb344 (Nat.le_of_eq hg.symm)) hb); replace HR343_1 := As_.mk (Kd.C_below z99_10 hb); have BK344 := As_.mk (hbox); have GW344 := As_.mk ((z99_12 : w.heap.size ≤ gb344)); have GE344 := As_.mk ((z99_12 : w.heap.size ≤ gb344)); replace HB := As_.mk (below_step z99_0 hb); have NB332_344 := As_.mk ((by rw [hg]; exact Nat.ne_of_lt (blk_lt (bo BK332)) : gb332 ≠ gb344)); have NB344_332 := As_.mk ((by rw [hg]; exact Nat.ne_of_gt (blk_lt (bo BK332)) : gb344 ≠ gb332)); replace BK332 := As_.mk (blk_below (bo BK332) hb); have NB336_344 := As_.mk ((z99_8 : g336 ≠ gb344)); have NB344_336 := As_.mk ((z99_9 : gb344 ≠ g336)); replace HI336 := As_.mk (IsS125.below z99_2 hb); clear hb hbox hg; have hnb76 := NB344_332.out; have hnc76 := NB332_344.out; have hnb77 := NB344_336.out; have hnc77 := NB336_344.out; obtain ⟨hcz78_0, hcz78_1, hcz78_2, hfz78_0, hfz78_1, hfz78_2⟩ := sd3 BK344.out) | ((with_reducible refine gate_callee (f := 105) rfl ?_); refine goesL_ (some 13) rfl rfl Try.func105 sqk rfl #[.pointer (some ⟨g336, 0, none⟩), .int .i64 6] rfl sqm ?_; (with_reducible refine (spec_l1Below.calls g336 t333 t341 t342 6 t345 t346 t347 w _ ?side1 ?side2 A7.out).mono ?_); (case side1 => repeat (first | (with_reducible first | exact HI336.out | apply IsS125.alloc | apply IsS125.drewN | apply IsS125.drew | apply IsS125.set_1 | apply IsS125.set_2 | refine IsS125.far ?_ NB336_332.out _ | refine IsS125.far ?_ NB336_344.out _) | exact HI336.out)); (case side2 => exact z99_1); rintro e w79 ⟨rfl, hi, hb, hk⟩; refine ⟨_, rfl, ?_⟩; replace BK332 := As_.mk (KeepBut.blk hk (g' := gb332) (o := .cells #[.int .i64 0, .slice none 0 0, .int .i64 0] 48 (0, 0)) (bp BK332) NB332_336.out (by simp)); replace HO339 := As_.mk (Kd.N_mono (Kd.N_keep (Kd.N_mono (ok := fun k_ => ((((w.heap.size ≤ k_)) ∧ (k_ ≠ gb332 ∧ k_ ≠ g336)) ∧ k_ ≠ gb344)) z99_4 (fun k_ hk_ => (⟨hk_, hk_.1.2.2⟩ : _ ∧ k_ ≠ g336))) hk (fun _ h => h.2)) (fun _ h => h.1)); replace HL343_1 := As_.mk (Kd.V_mono (Kd.V_keep (Kd.V_mono (ok := fun k_ => (((((w.heap.size ≤ k_)) ∧ (k_ ≠ gb332 ∧ k_ ≠ g336)) ∧ some k_ ≠ (.slice (some ad343) t337.length co74 : Value).ownBlock) ∧ k_ ≠ gb344)) z99_3 (fun k_ hk_ => (⟨hk_, hk_.1.1.2.2⟩ : _ ∧ k_ ≠ g336))) hk (fun _ h => h.2)) (fun _ h => h.1)); replace BK344 := As_.mk (KeepBut.blk hk (g' := gb344) (o := .cells #[.int .i64 ((rd_T48 t337 t340).f0), .slice A343_1 ((rd_T48 t337 t340).f1).length c343_1, .int .i64 ((rd_T48 t337 t340).f2)] 48 (0, 0)) (bp BK344) NB344_336.out (by simp)); replace HB := As_.mk (hb); replace HI336 := As_.mk (hi); (try clear hb); (try clear hk); (try clear hi); obtain ⟨hcz80_0, hcz80_1, hcz80_2, hfz80_0, hfz80_1, hfz80_2⟩ := sd3 BK344.out; have hnb81 := NB332_336.out; have hnc81 := NB336_332.out; obtain ⟨hcz82_0, hcz82_1, hcz82_2, hfz82_0, hfz82_1, hfz82_2⟩ := sd3 BK332.out))
      refine bodyPost_ret (results_cell_row rfl _ _ gb332 48 #[.int .i64 ((rd_T48 t337 t340).f0), .slice A343_1 ((rd_T48 t337 t340).f1).length c343_1, .int .i64 ((rd_T48 t337 t340).f2)] (0, 0) _ rfl ?_ Try.underlying48 rfl sqk) rfl ?_; exact bp BK332
      exact ⟨_, sqe, by (with_reducible repeat (first | apply Kd.V_alloc | apply Kd.V_drewN | apply Kd.V_drew)); exact Kd.V_mono (Kd.V_far (p := ⟨gb332, 2, none⟩) (Kd.V_far (p := ⟨gb332, 1, none⟩) (Kd.V_far (p := ⟨gb332, 0, none⟩) (Kd.V_mono HL343_1.out (fun k_ hk => (⟨hk, hk.1.1.2.1⟩ : _ ∧ k_ ≠ gb332))) (fun _ hk => hk.2) (.int .i64 ((rd_T48 t337 t340).f0))) (fun _ hk => hk.2) (.slice A343_1 ((rd_T48 t337 t340).f1).length c343_1)) (fun _ hk => hk.2) (.int .i64 ((rd_T48 t337 t340).f2))) (fun _ hk => hk.1.1.1.1), by repeat (first | (with_reducible first | exact HB.out | apply bA_ | apply bN_ | apply bD_ | refine bS_ ?_ (IsS125.ge HI336.out) | refine bS_ ?_ GE332.out | refine bS_ ?_ GE344.out) | exact HB.out)⟩
  ·rw [if_neg c6] at H
   exact absurd H (by simp)
 ·rw [if_neg c5] at H
  exact absurd H (by simp)

/-! ### spec_l5Name: function 132 -/
def spec_l5Name.f (s0_0 : List Int) (s0_1 : Int) (s0_2 : Int) (a1 : Int) : Option (Int × Int × Int) := (spec_l1Below.f s0_0 s0_1 s0_2 3).bind fun bt372 => (some (wrap64 ((wrap64 (a1 * 10)) + bt372.1), bt372.2.1, bt372.2.2))
set_option maxHeartbeats 8000000 in
set_option maxRecDepth 100000 in
theorem spec_l5Name.calls (g : Nat) (s0_0 : List Int) (s0_1 : Int) (s0_2 : Int) (a1 : Int) (r1 : Int) (r2 : Int) (r3 : Int) (w0 w : World) (hI : IsS125 w0 w g s0_0 s0_1 s0_2) (hB : Below w0.heap.size w0 w) (h : spec_l5Name.f s0_0 s0_1 s0_2 a1 = some (r1, r2, r3)) :
  Calls Try.prog 132 #[.pointer (some ⟨g, 0, none⟩), .int .i64 a1] w fun e w' => e = .returned (.int .i64 r1) ∧ IsS125 w0 w' g s0_0 r2 r3 ∧ Below w0.heap.size w0 w' ∧ KeepBut w w' g none := by
 have HI0 := As_.mk hI
 have HK := As_.mk (KeepBut.refl w g none)
 have HL := As_.mk hB.size
 clear hI
 have HW0 := As_.mk hB.size
 have HB := As_.mk hB
 clear hB
 have H : ((spec_l1Below.f s0_0 s0_1 s0_2 3).bind fun bt372 => (some (wrap64 ((wrap64 (a1 * 10)) + bt372.1), bt372.2.1, bt372.2.2))) = some (r1, r2, r3) := h
 clear h
 obtain ⟨⟨t372, t373, t374⟩, A3, H⟩ := bA H
 dsimp only at H
 simp only [Option.some.injEq, Prod.mk.injEq] at H
 obtain ⟨rfl, rfl, rfl⟩ := H
 go_enter Try.func132, Try.ntmps132
 go_wp2_with (first | ((with_reducible refine gate_callee (f := 105) rfl ?_); refine goesL_ (some 8) rfl rfl Try.func105 sqk rfl #[.pointer (some ⟨g, 0, none⟩), .int .i64 3] rfl sqm ?_; (with_reducible refine (spec_l1Below.calls g s0_0 s0_1 s0_2 3 t372 t373 t374 w0 _ ?side1 ?side2 A3.out).mono ?_); (case side1 => exact sqi); (case side2 => exact sqj); rintro e w4 ⟨rfl, hi, hb, hk⟩; refine ⟨_, rfl, ?_⟩; replace HK := As_.mk (KeepBut.trans sqp hk (.inl rfl)); replace HB := As_.mk (hb); replace HI0 := As_.mk (hi); (try clear hb); (try clear hk); (try clear hi)))
 go_ret
 exact ⟨sqe, sqi, sqj, sqp⟩

end Go.Proofs.Ytabpgiebhgkfhaa.XFnIssuers
