/- Written by this session's own program (wip/xprint, which runs over the kit's print): what the functions that the law reaches come to, each proved; and the law's row. Conditions: none. -/
import Derived.Test.YtgmgoabohppkeaaUFnRolesx0
namespace Go.Proofs.Ytgmgoabohppkeaa.XFnRoles
open Go.RowKit Go.Proofs.YtgmgoabohppkeaaW.PrintWords Go.Proofs.YtgmgoabohppkeaaW.PrintLast Go.Proofs.YtgmgoabohppkeaaW.PrintMore
attribute [local go_sem] max2_int min2_int max_two min_two max_three min_three max_four min_four   -- for this text's walks alone
set_option linter.unusedVariables false
set_option linter.unusedSimpArgs false

/-! ### impl_InRange: function 87 -/
def impl_InRange.f (a0 : Int) (a1 : Int) (a2 : Int) : Option (Bool) := if a1 ≤ a0 then (some (decide (a0 ≤ a2))) else (some false)
set_option maxHeartbeats 8000000 in
set_option maxRecDepth 100000 in
theorem impl_InRange.calls (a0 : Int) (a1 : Int) (a2 : Int) (r : Bool) (w : World) (h : impl_InRange.f a0 a1 a2 = some r) :
    Calls Try.prog 87 #[.int .i64 a0, .int .i64 a1, .int .i64 a2] w fun e w' => e = .returned (.bool r) ∧ Drawn0 w w' := by
  have H : (if a1 ≤ a0 then (some (decide (a0 ≤ a2))) else (some false)) = some r := h
  clear h
  by_cases c4 : a1 ≤ a0
  · rw [if_pos c4] at H
    have c4b0 : decide (a1 ≤ a0) = true := decide_eq_true c4
    clear c4
    obtain rfl := Option.some.inj H
    go_enter Try.func87, Try.ntmps87
    go_wp2
    go_ret
    exact ⟨by first | rfl | (simp; done) | (simp [*]; done), by repeat (first | exact Drawn0.refl _ | apply Drawn0.step)⟩
  · rw [if_neg c4] at H
    have c4b0 : decide (a1 ≤ a0) = false := decide_eq_false c4
    clear c4
    obtain rfl := Option.some.inj H
    go_enter Try.func87, Try.ntmps87
    go_wp2
    go_ret
    exact ⟨by first | rfl | (simp; done) | (simp [*]; done), by repeat (first | exact Drawn0.refl _ | apply Drawn0.step)⟩

/-! ### impl_isRole: function 70 -/
def impl_isRole.f (a0 : Int) : Option (Bool) := (impl_InRange.f a0 0 5).bind fun t101 => (some t101)
set_option maxHeartbeats 8000000 in
set_option maxRecDepth 100000 in
theorem impl_isRole.calls (a0 : Int) (r : Bool) (w : World) (h : impl_isRole.f a0 = some r) :
    Calls Try.prog 70 #[.int .i64 a0] w fun e w' => e = .returned (.bool r) ∧ Drawn0 w w' := by
  have H : ((impl_InRange.f a0 0 5).bind fun t101 => (some t101)) = some r := h
  clear h
  replace H := Option.bind_eq_some_iff.mp H
  obtain ⟨t101, A20, H⟩ := H
  replace H : (some t101) = some r := H
  have A2 := Aside0.mk A20
  clear A20
  obtain rfl := Option.some.inj H
  go_enter Try.func70, Try.ntmps70
  go_wp2_with (first | ((with_reducible refine gate_callee (f := 87) rfl ?_); refine goesL_ (some 4) rfl rfl Try.func87 (by kernel_rfl) rfl #[.int .i64 a0, .int .i64 0, .int .i64 5] rfl (by (try simp only [List.map_toArray, List.map_cons, List.map_nil]); first | done | rfl | (simp only [List.length_drop, List.length_take]; rfl)) ?_; (with_reducible refine (impl_InRange.calls a0 0 5 t101 _ A2.out).mono ?_); rintro e w' ⟨rfl, ⟨nd, rfl⟩⟩; refine ⟨_, rfl, ?_⟩))
  go_ret
  exact ⟨by first | rfl | (simp; done) | (simp [*]; done), by repeat (first | exact Drawn0.refl _ | apply Drawn0.step)⟩

/-! ### impl_below: function 71 -/
def impl_below.st (at' : Int) (s : List Bool × List Int) (x : S78) : List Bool × List Int := if x.f0 = at' ∧ (0 ≤ x.f1 ∧ x.f1 ≤ 5) ∧ s.1.getD x.f1.toNat false = false then (s.1.set x.f1.toNat true, s.2 ++ [x.f1]) else s
def impl_below.go (l : List S78) : Nat → List Bool → List Int → Option (List Bool)
  | 0, _, _ => none
  | k + 1, bs, [] => some bs
  | k + 1, bs, a :: t => if t.length + l.length < 1000000000 then impl_below.go l k (l.foldl (impl_below.st a) (bs, t)).1 (l.foldl (impl_below.st a) (bs, t)).2 else none
def impl_below.f (k : Nat) (l : List S78) (a : Int) : Option (List Bool) := impl_below.go l k (List.replicate 6 false) [a]
def arrV (bs : List Bool) : Array Value := (bs.map Value.bool).toArray
set_option maxHeartbeats 8000000 in
set_option maxRecDepth 100000 in
theorem impl_below.calls (k : Nat) (A0 : Option Addr) (c0 : Nat) (l0 : List (S78)) (a1 : Int) (r : List Bool) (w : World) (hr0 : Kd.C k78 w A0 l0.length l0) (hc0 : l0.length ≤ c0) (h : impl_below.f k l0 a1 = some r) :
    Calls Try.prog 71 #[.slice A0 l0.length c0, .int .i64 a1] w fun e w' => e = .returned (.agg (arrV r)) ∧ Below w.heap.size w w' := by
  have HH := Aside0.mk h
  clear h
  have HR0 := Aside0.mk hr0
  clear hr0 hc0
  have HB := Aside0.mk (Below.refl w.heap.size w)
  go_enter Try.func71, Try.ntmps71
  go_wp2_with (first
    | ((with_reducible refine gate_dst (N := 4) rfl ?_); refine box_event ?hg (N := 4) ?hd (cs := #[.bool false, .bool false, .bool false, .bool false, .bool false, .bool false]) (t := 89) ?hr ?_; (case hd => rfl); (case hg => rfl); (case hr => first | (go_simp; done) | (go_simp; rfl)); intro gr hgr w1 hbr hb1; have BR := Aside0.mk hbr; have HB1 := Aside0.mk (below_step HB.out hb1); have GR := Aside0.mk ((by rw [hgr]; exact Nat.le_refl _ : w.heap.size ≤ gr)); clear HB hb1 hbr hgr)
    | ((with_reducible refine gate_dst (N := 5) rfl ?_); refine box_event ?hg (N := 5) ?hd (cs := #[.bool false, .bool false, .bool false, .bool false, .bool false, .bool false]) (t := 89) ?hr ?_; (case hd => rfl); (case hg => rfl); (case hr => first | (go_simp; done) | (go_simp; rfl)); intro go hgo w2 hbo hb2; have BO := Aside0.mk hbo; have HB2 := Aside0.mk (below_step HB1.out hb2); have NE := Aside0.mk (show go ≠ gr from by have := (Array.getElem?_eq_some_iff.1 BR.out).1; omega); have BR2 := Aside0.mk ((hb2.block gr (Array.getElem?_eq_some_iff.1 BR.out).1).trans BR.out); have GO := Aside0.mk ((by rw [hgo]; exact below_size HB1.out : w.heap.size ≤ go)); clear HB1 BR hb2 hbo hgo; have hcz0 : w2.cell? ⟨go, 0, none⟩ = some (.bool false) := (bC_ BO.out 0).trans rfl; have hcz1 : w2.cell? ⟨go, 1, none⟩ = some (.bool false) := (bC_ BO.out 1).trans rfl; have hcz2 : w2.cell? ⟨go, 2, none⟩ = some (.bool false) := (bC_ BO.out 2).trans rfl; have hcz3 : w2.cell? ⟨go, 3, none⟩ = some (.bool false) := (bC_ BO.out 3).trans rfl; have hcz4 : w2.cell? ⟨go, 4, none⟩ = some (.bool false) := (bC_ BO.out 4).trans rfl; have hcz5 : w2.cell? ⟨go, 5, none⟩ = some (.bool false) := (bC_ BO.out 5).trans rfl; have hfz0 := bF_ BO.out 0; have hfz1 := bF_ BO.out 1; have hfz2 := bF_ BO.out 2; have hfz3 := bF_ BO.out 3; have hfz4 := bF_ BO.out 4; have hfz5 := bF_ BO.out 5))
  have hz : ∀ (bs : List Bool) (i : Nat), bs.length = 6 → (arrV bs).size = 6 := fun bs i h => by simp [arrV, h]
  go_loopg [6] k (fun kq v6 w' => ∃ (bs : List Bool) (todo : List Int), bs.length = 6 ∧ Aside0 (impl_below.go l0 kq bs todo = some r) ∧ Aside0 (kq ≤ k) ∧ Aside0 (Kd.Q (Kd.int .i64) 3 w' w.heap.size (fun _ => True) v6 todo) ∧ Aside0 (w'.heap[go]? = some (.cells (arrV bs) 89 (0, 0))) ∧ Aside0 (w'.heap[gr]? = some (.cells (arrV (List.replicate 6 false)) 89 (0, 0))) ∧ Aside0 (Below w.heap.size w w'))
  case atStart =>
    have HB3 : Below w.heap.size w ((((((w2.setCell ⟨go, 0, none⟩ (.bool false)).setCell ⟨go, 1, none⟩ (.bool false)).setCell ⟨go, 2, none⟩ (.bool false)).setCell ⟨go, 3, none⟩ (.bool false)).setCell ⟨go, 4, none⟩ (.bool false)).setCell ⟨go, 5, none⟩ (.bool false)) := bS_ (bS_ (bS_ (bS_ (bS_ (bS_ HB2.out GO.out) GO.out) GO.out) GO.out) GO.out) GO.out
    have BO3 := blk_put (blk_put (blk_put (blk_put (blk_put (blk_put BO.out 0 (.bool false) rfl) 1 (.bool false) rfl) 2 (.bool false) rfl) 3 (.bool false) rfl) 4 (.bool false) rfl) 5 (.bool false) rfl
    have hrn : ∀ (W : World) (i : Nat) (u : Value), (W.setCell ⟨go, i, none⟩ u).heap[gr]? = W.heap[gr]? := fun W i u => Below.heap_setCell _ _ _ gr (Ne.symm NE.out)
    refine ⟨List.replicate 6 false, [a1], rfl, HH, ⟨Nat.le_refl _⟩, ⟨?_⟩, ⟨?_⟩, ⟨?_⟩, ⟨bA_ HB3 _⟩⟩
    · refine Kd.Q_of_R (Kd.R_of_own ?_ (fun _ _ => trivial))
      have h := World.ownsRow_lit (base := w.heap.size) (e := 3) (size := 1) ((((((w2.setCell ⟨go, 0, none⟩ (.bool false)).setCell ⟨go, 1, none⟩ (.bool false)).setCell ⟨go, 2, none⟩ (.bool false)).setCell ⟨go, 3, none⟩ (.bool false)).setCell ⟨go, 4, none⟩ (.bool false)).setCell ⟨go, 5, none⟩ (.bool false)) #[.int .i64 a1] 1 (below_size HB3) (by decide) rfl
      rw [(by simp [World.setCell] : ((((((w2.setCell ⟨go, 0, none⟩ (.bool false)).setCell ⟨go, 1, none⟩ (.bool false)).setCell ⟨go, 2, none⟩ (.bool false)).setCell ⟨go, 3, none⟩ (.bool false)).setCell ⟨go, 4, none⟩ (.bool false)).setCell ⟨go, 5, none⟩ (.bool false)).heap.size = w2.heap.size)] at h
      exact h
    · exact blk_alloc BO3 _
    · refine blk_alloc ?_ _
      rw [hrn, hrn, hrn, hrn, hrn, hrn]
      exact BR2.out
  case round =>
    obtain ⟨bs, todo, hbl, HG, HK, HQ, BO, BR, HB⟩ := hrel
    cases gk with
    | zero => exact absurd HG.out (by simp [impl_below.go])
    | succ k1 =>
      cases todo with
      | nil =>
        have hg := HG.out
        simp only [impl_below.go] at hg
        obtain rfl := Option.some.inj hg
        obtain ⟨A6, c6, rfl, hc6, hC6⟩ := Kd.Q_reads HQ.out
        have hlen : decide ((([] : List Int).length : Int) > 0) = false := rfl
        obtain ⟨b0, b1, b2, b3, b4, b5, rfl⟩ : ∃ b0 b1 b2 b3 b4 b5, bs = [b0, b1, b2, b3, b4, b5] := by
          match bs, hbl with
          | [b0, b1, b2, b3, b4, b5], _ => exact ⟨b0, b1, b2, b3, b4, b5, rfl⟩
        have hcz0 : wr.cell? ⟨go, 0, none⟩ = some (.bool b0) := (bC_ BO.out 0).trans rfl
        have hcz1 : wr.cell? ⟨go, 1, none⟩ = some (.bool b1) := (bC_ BO.out 1).trans rfl
        have hcz2 : wr.cell? ⟨go, 2, none⟩ = some (.bool b2) := (bC_ BO.out 2).trans rfl
        have hcz3 : wr.cell? ⟨go, 3, none⟩ = some (.bool b3) := (bC_ BO.out 3).trans rfl
        have hcz4 : wr.cell? ⟨go, 4, none⟩ = some (.bool b4) := (bC_ BO.out 4).trans rfl
        have hcz5 : wr.cell? ⟨go, 5, none⟩ = some (.bool b5) := (bC_ BO.out 5).trans rfl
        have hry0 : wr.cell? ⟨gr, 0, none⟩ = some (.bool false) := (bC_ BR.out 0).trans rfl
        have hry1 : wr.cell? ⟨gr, 1, none⟩ = some (.bool false) := (bC_ BR.out 1).trans rfl
        have hry2 : wr.cell? ⟨gr, 2, none⟩ = some (.bool false) := (bC_ BR.out 2).trans rfl
        have hry3 : wr.cell? ⟨gr, 3, none⟩ = some (.bool false) := (bC_ BR.out 3).trans rfl
        have hry4 : wr.cell? ⟨gr, 4, none⟩ = some (.bool false) := (bC_ BR.out 4).trans rfl
        have hry5 : wr.cell? ⟨gr, 5, none⟩ = some (.bool false) := (bC_ BR.out 5).trans rfl
        have hfy0 := bF_ BR.out 0
        have hfy1 := bF_ BR.out 1
        have hfy2 := bF_ BR.out 2
        have hfy3 := bF_ BR.out 3
        have hfy4 := bF_ BR.out 4
        have hfy5 := bF_ BR.out 5
        go_wp2
        refine bodyPost_ret (results_cell_row rfl _ _ gr 89 #[.bool b0, .bool b1, .bool b2, .bool b3, .bool b4, .bool b5] (0, 0) _ rfl (blk_put (cs := #[.bool b0, .bool b1, .bool b2, .bool b3, .bool b4, .bool false]) (blk_put (cs := #[.bool b0, .bool b1, .bool b2, .bool b3, .bool false, .bool false]) (blk_put (cs := #[.bool b0, .bool b1, .bool b2, .bool false, .bool false, .bool false]) (blk_put (cs := #[.bool b0, .bool b1, .bool false, .bool false, .bool false, .bool false]) (blk_put (cs := #[.bool b0, .bool false, .bool false, .bool false, .bool false, .bool false]) (blk_put (cs := #[.bool false, .bool false, .bool false, .bool false, .bool false, .bool false]) BR.out 0 _ rfl) 1 _ rfl) 2 _ rfl) 3 _ rfl) 4 _ rfl) 5 _ rfl) Try.underlying89 rfl (by kernel_rfl)) rfl ?_
        exact ⟨rfl, bS_ (bS_ (bS_ (bS_ (bS_ (bS_ HB.out GR.out) GR.out) GR.out) GR.out) GR.out) GR.out⟩
      | cons a t =>
        have hg := HG.out
        simp only [impl_below.go] at hg
        have htl : t.length + l0.length < 1000000000 := by
          by_cases q : t.length + l0.length < 1000000000
          · exact q
          · rw [if_neg q] at hg
            cases hg
        rw [if_pos htl] at hg
        have HTL := Aside0.mk htl
        have HG1 := Aside0.mk hg
        clear HG hg htl
        obtain ⟨A6, c6, rfl, hc6, hC6⟩ := Kd.Q_reads HQ.out
        have hgt : decide (((a :: t).length : Int) > 0) = true := decide_eq_true (by simp)
        have hgt' : (0 : Int) < ((a :: t).length : Int) := by simp
        obtain ⟨ad, ead, hx⟩ := Kd.at_int hC6 0 (by omega) hgt'
        subst ead
        replace hx : wr.cell? (ad.add 0) = some (.int .i64 a) := hx
        rw [show ad.add 0 = ad by simp [Addr.add]] at hx
        obtain ⟨i0, hi0, _, hsz0, _⟩ := info_parts info3
        have hcut := cut_from (P := Try.prog) 26 3 .i64 Try.underlying26 hi0 1 hsz0 (some ad) (a :: t).length c6 1 (by omega) (by simp; omega)
        have HQ1 := Kd.Q_drop (k := 1) HQ.out (by simp)
        clear HQ
        obtain ⟨V, hV⟩ : ∃ V : Value, V = .slice (if c6 = 1 then some ad else (some ad).map (·.add (1 * 1))) ((a :: t).length - 1) (c6 - 1) := ⟨_, rfl⟩
        replace hcut : ∀ W : World, (Instr.slice 26 (.slice (some ad) (a :: t).length c6) (some (.int .i64 1)) none none).run Try.prog W = .ok V W := by rw [hV]; exact hcut
        replace HQ1 : Aside0 (Kd.Q (Kd.int .i64) 3 wr w.heap.size (fun _ => True) V t) := ⟨by rw [hV]; exact HQ1⟩
        have hlt1 : (0 < (a :: t).length) = True := eq_true (by simp)
        have HN := Aside0.mk hC6
        clear hV hi0 hsz0 hC6
        generalize hL : (a :: t).length = L at hcut hgt hgt' hlt1 hc6
        go_wp2
        clear hx hcut hgt hgt' hlt1 hc6 HN
        go_loopg [6, 23] l0.length (fun gg v6 v23 w' => ∃ (a' b : List S78) (bs : List Bool) (todo : List Int), bs.length = 6 ∧ Aside0 (l0 = a' ++ b) ∧ b.length ≤ gg ∧ v23 = .int .i64 (a'.length : Int) ∧ Aside0 (impl_below.go l0 k1 (b.foldl (impl_below.st a) (bs, todo)).1 (b.foldl (impl_below.st a) (bs, todo)).2 = some r) ∧ Aside0 (Kd.Q (Kd.int .i64) 3 w' w.heap.size (fun _ => True) v6 todo) ∧ Aside0 (w'.heap[go]? = some (.cells (arrV bs) 89 (0, 0))) ∧ Aside0 (w'.heap[gr]? = some (.cells (arrV (List.replicate 6 false)) 89 (0, 0))) ∧ Aside0 (Below w.heap.size w w') ∧ Aside0 (todo.length + b.length < 1000000000))
        case atStart => exact ⟨[], l0, bs, t, hbl, ⟨rfl⟩, Nat.le_refl _, rfl, HG1, HQ1, BO, BR, HB, HTL⟩
        case round =>
          clear HQ1 BO BR HB HG1
          obtain ⟨a', b, bs, todo, hbl, hl, hgg, rfl, HG2, HQ, BO, BR, HB, HT⟩ := hrel
          cases b with
          | nil =>
            have hd : decide ((a'.length : Int) < (l0.length : Int)) = false := decide_eq_false (by rw [hl.out]; simp)
            have hd2 : ((a'.length : Int) < (l0.length : Int)) = False := eq_false (by rw [hl.out]; simp)
            have hd3 : (a'.length < l0.length) = False := eq_false (by rw [hl.out]; simp)
            go_wp2
            go_roundg k1
            case measure => omega
            case rel => exact ⟨bs, todo, hbl, HG2, ⟨by have := HK.out; omega⟩, HQ, BO, BR, HB⟩
          | cons x b =>
            have hlt : (a'.length : Int) < (l0.length : Int) := by rw [hl.out]; simp; omega
            have hd : decide ((a'.length : Int) < (l0.length : Int)) = true := decide_eq_true hlt
            have hxx : rd_T78 l0 (a'.length : Int) = x := by
              unfold rd_T78
              rw [Int.toNat_natCast, hl.out, List.getD_eq_getElem?_getD, List.getElem?_append_right (Nat.le_refl _), Nat.sub_self]
              rfl
            obtain ⟨ad2, e2, hx0, hx1⟩ := at_T78 HR0.out (a'.length : Int) (by omega) hlt
            cases e2
            rw [hxx] at hx0 hx1
            replace hx0 := (HB.out.cell (World.block_lt_of_cell? w _ hx0)).trans hx0
            replace hx1 := (HB.out.cell (World.block_lt_of_cell? w _ hx1)).trans hx1
            have hlt' := eq_true hlt
            simp only [Int.toNat_natCast] at hx0 hx1
            cases gk with
            | zero => exact absurd hgg (by simp)
            | succ g1 =>
            by_cases c0 : x.f0 = a
            · have c0' : (x.f0 == a) = true := beq_iff_eq.2 c0
              have hrole : impl_isRole.f x.f1 = some (decide (0 ≤ x.f1 ∧ x.f1 ≤ 5)) := by
                unfold impl_isRole.f impl_InRange.f
                by_cases h : 0 ≤ x.f1
                · rw [if_pos h]; simp [h]
                · rw [if_neg h]; simp [h]
              by_cases c1 : 0 ≤ x.f1 ∧ x.f1 ≤ 5
              · rw [decide_eq_true c1] at hrole
                have hb0 : (0 ≤ x.f1) = True := eq_true c1.1
                have hb6 : (x.f1 < 6) = True := eq_true (by omega)
                have hj : x.f1.toNat < bs.length := by omega
                have harr : (arrV bs)[x.f1.toNat]? = some (.bool (bs.getD x.f1.toNat false)) := by simp [arrV, List.getD_eq_getElem?_getD, List.getElem?_eq_getElem hj]
                cases hbit : bs.getD x.f1.toNat false with
                | true =>
                  rw [hbit] at harr
                  go_wp2_with (first | ((with_reducible refine gate_dst (N := 9) rfl ?_); refine box_event ?hg (N := 9) ?hd (cs := #[.int .i64 0, .int .i64 0]) (t := 78) ?hr ?_; (case hd => rfl); (case hg => rfl); (case hr => first | (go_simp; done) | (go_simp; rfl)); intro gx hgx w4 hbx hb4; have BX := Aside0.mk hbx; have HQ4 := Aside0.mk (Kd.Q_below HQ.out hb4); have BO4 := Aside0.mk ((hb4.block go (Array.getElem?_eq_some_iff.1 BO.out).1).trans BO.out); have BR4 := Aside0.mk ((hb4.block gr (Array.getElem?_eq_some_iff.1 BR.out).1).trans BR.out); have HB4 := Aside0.mk (below_step HB.out hb4); have GX := Aside0.mk ((by rw [hgx]; exact below_size HB.out : w.heap.size ≤ gx)); have hne1 : gx ≠ go := (by have := (Array.getElem?_eq_some_iff.1 BO.out).1; omega); have hne2 : gx ≠ gr := (by have := (Array.getElem?_eq_some_iff.1 BR.out).1; omega); clear HQ BO BR HB hbx hb4 hgx; have hcx0 : w4.cell? ⟨gx, 0, none⟩ = some (.int .i64 0) := (bC_ BX.out 0).trans rfl; have hcx1 : w4.cell? ⟨gx, 1, none⟩ = some (.int .i64 0) := (bC_ BX.out 1).trans rfl; have hfx0 := bF_ BX.out 0; have hfx1 := bF_ BX.out 1; have hld : w4.cell? ⟨go, x.f1.toNat, none⟩ = some (.bool true) := (bC_ BO4.out x.f1.toNat).trans harr; have hlf := bF_ BO4.out x.f1.toNat) | (go_at_call 70; refine (impl_isRole.calls x.f1 true _ hrole).mono ?_; rintro e w' ⟨rfl, ⟨nd, rfl⟩⟩))
                  go_roundg g1
                  case measure => omega
                  case rel =>
                    have hst : impl_below.st a (bs, todo) x = (bs, todo) := by unfold impl_below.st; rw [if_neg (fun h => by rw [hbit] at h; cases h.2.2)]
                    have hgn := HG2.out
                    rw [List.foldl_cons, hst] at hgn
                    have hlen := Kd.C_max HR0.out
                    refine ⟨a' ++ [x], b, bs, todo, hbl, ⟨by rw [hl.out]; simp⟩, by simp at hgg; omega, ?_, ⟨hgn⟩, ⟨Kd.Q_drewN (Kd.Q_set (Kd.Q_set HQ4.out BX.out (by decide) 0 _) (blk_put BX.out 0 _ rfl) (by decide) 1 _) _⟩, ⟨(Below.heap_setCell _ _ _ go (Ne.symm hne1)).trans ((Below.heap_setCell _ _ _ go (Ne.symm hne1)).trans BO4.out)⟩, ⟨(Below.heap_setCell _ _ _ gr (Ne.symm hne2)).trans ((Below.heap_setCell _ _ _ gr (Ne.symm hne2)).trans BR4.out)⟩, ⟨bN_ (bS_ (bS_ HB4.out GX.out) GX.out) _⟩, ⟨by have := HT.out; simp at this; omega⟩⟩
                    rw [List.length_append]
                    unfold wrap64
                    simp
                    omega
                | false =>
                  rw [hbit] at harr
                  have hset : arrV (bs.set x.f1.toNat true) = (arrV bs).setIfInBounds x.f1.toNat (.bool true) := by simp [arrV, List.map_set]
                  have hne0 := NE.out
                  go_wp2_with (first | ((with_reducible refine gate_dst (N := 9) rfl ?_); refine box_event ?hg (N := 9) ?hd (cs := #[.int .i64 0, .int .i64 0]) (t := 78) ?hr ?_; (case hd => rfl); (case hg => rfl); (case hr => first | (go_simp; done) | (go_simp; rfl)); intro gx hgx w4 hbx hb4; have BX := Aside0.mk hbx; have HQ4 := Aside0.mk (Kd.Q_below HQ.out hb4); have BO4 := Aside0.mk ((hb4.block go (Array.getElem?_eq_some_iff.1 BO.out).1).trans BO.out); have BR4 := Aside0.mk ((hb4.block gr (Array.getElem?_eq_some_iff.1 BR.out).1).trans BR.out); have HB4 := Aside0.mk (below_step HB.out hb4); have GX := Aside0.mk ((by rw [hgx]; exact below_size HB.out : w.heap.size ≤ gx)); have hne1 : gx ≠ go := (by have := (Array.getElem?_eq_some_iff.1 BO.out).1; omega); have hne2 : gx ≠ gr := (by have := (Array.getElem?_eq_some_iff.1 BR.out).1; omega); clear HQ BO BR HB hbx hb4 hgx; have hcx0 : w4.cell? ⟨gx, 0, none⟩ = some (.int .i64 0) := (bC_ BX.out 0).trans rfl; have hcx1 : w4.cell? ⟨gx, 1, none⟩ = some (.int .i64 0) := (bC_ BX.out 1).trans rfl; have hfx0 := bF_ BX.out 0; have hfx1 := bF_ BX.out 1; have hld : w4.cell? ⟨go, x.f1.toNat, none⟩ = some (.bool false) := (bC_ BO4.out x.f1.toNat).trans harr; have hlf := bF_ BO4.out x.f1.toNat) | (go_at_call 70; refine (impl_isRole.calls x.f1 true _ hrole).mono ?_; rintro e w' ⟨rfl, ⟨nd, rfl⟩⟩) | ((with_reducible refine gate_builtin (b := .append) (xs := #[.tmp 46, .tmp 49]) rfl ?_); at_builtin; go_loud (refine Kd.Q_append (Kd.int .i64) (w0 := w) w.heap.size rfl (.tmp 46) (.tmp 49) 26 3 (.int .i64 0) 8 rfl Try.underlying26 info3 rfl (by decide) (by omega) u6 todo x.f1 [.int .i64 x.f1] (fun _ => True) (fun _ => False) rfl ?aX ?aP (fun _ hk => hk.elim) ?aF ?aO ?aB ?aS ?aL ?_); (case aX => go_loud (exact (congrArg (fun b => Value.slice (some ⟨b, 0, none⟩) 1 1) (by simp [World.drewN, World.setCell] : w4.heap.size = (((((w4.setCell ⟨gx, 0, none⟩ (.int .i64 a)).setCell ⟨gx, 1, none⟩ (.int .i64 x.f1)).drewN nd).setCell ⟨go, x.f1.toNat, none⟩ (.bool true))).heap.size)))); (case aP => go_loud (exact rfl)); (case aF => go_loud (exact (fun _ _ => trivial))); (case aO => go_loud (exact Kd.Q_set (Kd.Q_drewN (Kd.Q_set (Kd.Q_set HQ4.out BX.out (by decide) 0 _) (blk_put BX.out 0 _ rfl) (by decide) 1 _) _) ((Below.heap_setCell _ _ _ go (Ne.symm hne1)).trans ((Below.heap_setCell _ _ _ go (Ne.symm hne1)).trans BO4.out)) (by decide) _ _)); (case aB => go_loud (exact bS_ (bN_ (bS_ (bS_ HB4.out GX.out) GX.out) _) GO.out)); (case aS => go_loud (exact below_size (bS_ (bN_ (bS_ (bS_ HB4.out GX.out) GX.out) _) GO.out))); (case aL => go_loud (have := HT.out; omega)); intro v50 w11 ho hb hg hat; have HQ11 := Aside0.mk ho; have HB11 := Aside0.mk hb; have BO11 : Aside0 (w11.heap[go]? = some (.cells (arrV (bs.set x.f1.toNat true)) 89 (0, 0))) := ⟨by go_loud (refine blk_grown (blk_put (blk_drewN ((Below.heap_setCell _ _ _ go (Ne.symm hne1)).trans ((Below.heap_setCell _ _ _ go (Ne.symm hne1)).trans BO4.out)) _) x.f1.toNat (.bool true) ?b1) hg ?b2; (case b1 => go_loud (exact hset.symm)); (case b2 => go_loud (exact (Kd.Q_ne HQ4.out BO4.out (by decide)))))⟩; have BR11 : Aside0 (w11.heap[gr]? = some (.cells (arrV (List.replicate 6 false)) 89 (0, 0))) := ⟨by go_loud (exact blk_grown ((Below.heap_setCell _ _ _ gr (Ne.symm hne0)).trans (blk_drewN ((Below.heap_setCell _ _ _ gr (Ne.symm hne2)).trans ((Below.heap_setCell _ _ _ gr (Ne.symm hne2)).trans BR4.out)) _)) hg (Kd.Q_ne HQ4.out BR4.out (by decide)))⟩; clear ho hb hg hat))
                  go_roundg g1
                  case measure => omega
                  case rel =>
                    have hst : impl_below.st a (bs, todo) x = (bs.set x.f1.toNat true, todo ++ [x.f1]) := by unfold impl_below.st; rw [if_pos ⟨c0, c1, hbit⟩]
                    have hgn := HG2.out
                    rw [List.foldl_cons, hst] at hgn
                    have hlen := Kd.C_max HR0.out
                    refine ⟨a' ++ [x], b, bs.set x.f1.toNat true, todo ++ [x.f1], by rw [List.length_set]; exact hbl, ⟨by rw [hl.out]; simp⟩, by simp at hgg; omega, ?_, ⟨hgn⟩, HQ11, BO11, BR11, HB11, ⟨by have := HT.out; simp at this ⊢; omega⟩⟩
                    rw [List.length_append]
                    unfold wrap64
                    simp
                    omega
              · rw [decide_eq_false c1] at hrole
                go_wp2_with (first | ((with_reducible refine gate_dst (N := 9) rfl ?_); refine box_event ?hg (N := 9) ?hd (cs := #[.int .i64 0, .int .i64 0]) (t := 78) ?hr ?_; (case hd => rfl); (case hg => rfl); (case hr => first | (go_simp; done) | (go_simp; rfl)); intro gx hgx w4 hbx hb4; have BX := Aside0.mk hbx; have HQ4 := Aside0.mk (Kd.Q_below HQ.out hb4); have BO4 := Aside0.mk ((hb4.block go (Array.getElem?_eq_some_iff.1 BO.out).1).trans BO.out); have BR4 := Aside0.mk ((hb4.block gr (Array.getElem?_eq_some_iff.1 BR.out).1).trans BR.out); have HB4 := Aside0.mk (below_step HB.out hb4); have GX := Aside0.mk ((by rw [hgx]; exact below_size HB.out : w.heap.size ≤ gx)); have hne1 : gx ≠ go := (by have := (Array.getElem?_eq_some_iff.1 BO.out).1; omega); have hne2 : gx ≠ gr := (by have := (Array.getElem?_eq_some_iff.1 BR.out).1; omega); clear HQ BO BR HB hbx hb4 hgx; have hcx0 : w4.cell? ⟨gx, 0, none⟩ = some (.int .i64 0) := (bC_ BX.out 0).trans rfl; have hcx1 : w4.cell? ⟨gx, 1, none⟩ = some (.int .i64 0) := (bC_ BX.out 1).trans rfl; have hfx0 := bF_ BX.out 0; have hfx1 := bF_ BX.out 1) | (go_at_call 70; refine (impl_isRole.calls x.f1 false _ hrole).mono ?_; rintro e w' ⟨rfl, ⟨nd, rfl⟩⟩))
                go_roundg g1
                case measure => omega
                case rel =>
                  have hst : impl_below.st a (bs, todo) x = (bs, todo) := by unfold impl_below.st; rw [if_neg (fun h => c1 h.2.1)]
                  have hgn := HG2.out
                  rw [List.foldl_cons, hst] at hgn
                  have hlen := Kd.C_max HR0.out
                  refine ⟨a' ++ [x], b, bs, todo, hbl, ⟨by rw [hl.out]; simp⟩, by simp at hgg; omega, ?_, ⟨hgn⟩, ⟨Kd.Q_drewN (Kd.Q_set (Kd.Q_set HQ4.out BX.out (by decide) 0 _) (blk_put BX.out 0 _ rfl) (by decide) 1 _) _⟩, ⟨(Below.heap_setCell _ _ _ go (Ne.symm hne1)).trans ((Below.heap_setCell _ _ _ go (Ne.symm hne1)).trans BO4.out)⟩, ⟨(Below.heap_setCell _ _ _ gr (Ne.symm hne2)).trans ((Below.heap_setCell _ _ _ gr (Ne.symm hne2)).trans BR4.out)⟩, ⟨bN_ (bS_ (bS_ HB4.out GX.out) GX.out) _⟩, ⟨by have := HT.out; simp at this; omega⟩⟩
                  rw [List.length_append]
                  unfold wrap64
                  simp
                  omega
            · have c0' : (x.f0 == a) = false := beq_eq_false_iff_ne.2 c0
              go_wp2_with (first | ((with_reducible refine gate_dst (N := 9) rfl ?_); refine box_event ?hg (N := 9) ?hd (cs := #[.int .i64 0, .int .i64 0]) (t := 78) ?hr ?_; (case hd => rfl); (case hg => rfl); (case hr => first | (go_simp; done) | (go_simp; rfl)); intro gx hgx w4 hbx hb4; have BX := Aside0.mk hbx; have HQ4 := Aside0.mk (Kd.Q_below HQ.out hb4); have BO4 := Aside0.mk ((hb4.block go (Array.getElem?_eq_some_iff.1 BO.out).1).trans BO.out); have BR4 := Aside0.mk ((hb4.block gr (Array.getElem?_eq_some_iff.1 BR.out).1).trans BR.out); have HB4 := Aside0.mk (below_step HB.out hb4); have GX := Aside0.mk ((by rw [hgx]; exact below_size HB.out : w.heap.size ≤ gx)); have hne1 : gx ≠ go := (by have := (Array.getElem?_eq_some_iff.1 BO.out).1; omega); have hne2 : gx ≠ gr := (by have := (Array.getElem?_eq_some_iff.1 BR.out).1; omega); clear HQ BO BR HB hbx hb4 hgx; have hcx0 : w4.cell? ⟨gx, 0, none⟩ = some (.int .i64 0) := (bC_ BX.out 0).trans rfl; have hcx1 : w4.cell? ⟨gx, 1, none⟩ = some (.int .i64 0) := (bC_ BX.out 1).trans rfl; have hfx0 := bF_ BX.out 0; have hfx1 := bF_ BX.out 1))
              go_roundg g1
              case measure => omega
              case rel =>
                have hst : impl_below.st a (bs, todo) x = (bs, todo) := by unfold impl_below.st; rw [if_neg (fun h => c0 h.1)]
                have hgn := HG2.out
                rw [List.foldl_cons, hst] at hgn
                have hlen := Kd.C_max HR0.out
                refine ⟨a' ++ [x], b, bs, todo, hbl, ⟨by rw [hl.out]; simp⟩, by simp at hgg; omega, ?_, ⟨hgn⟩, ⟨Kd.Q_set (Kd.Q_set HQ4.out BX.out (by decide) 0 _) (blk_put BX.out 0 _ rfl) (by decide) 1 _⟩, ⟨(Below.heap_setCell _ _ _ go (Ne.symm hne1)).trans ((Below.heap_setCell _ _ _ go (Ne.symm hne1)).trans BO4.out)⟩, ⟨(Below.heap_setCell _ _ _ gr (Ne.symm hne2)).trans ((Below.heap_setCell _ _ _ gr (Ne.symm hne2)).trans BR4.out)⟩, ⟨bS_ (bS_ HB4.out GX.out) GX.out⟩, ⟨by have := HT.out; simp at this; omega⟩⟩
                rw [List.length_append]
                unfold wrap64
                simp
                omega
theorem impl_below.mono_l (l : List S78) : ∀ k bs todo, LeO (impl_below.go l k bs todo) (impl_below.go l (k + 1) bs todo)
  | 0 => fun _ _ r h => by cases h
  | k + 1 => fun bs todo => by
    cases todo with
    | nil => exact LeO.refl _
    | cons a t =>
      rw [impl_below.go, impl_below.go]
      split
      · exact impl_below.mono_l l k _ _
      · exact LeO.none _
theorem impl_below.mono : ∀ a0 a1 k, LeO (impl_below.f k a0 a1) (impl_below.f (k + 1) a0 a1) := fun a0 a1 k => impl_below.mono_l a0 k _ _

/-! ### impl_RolesUnder: function 33 -/
/-- The roles from v on, d of them, that are marked or the role itself. -/
def impl_RolesUnder.g (bs : List Bool) (a : Int) : Nat → Int → List Int → List Int
  | 0, _, out => out
  | d + 1, v, out => impl_RolesUnder.g bs a d (v + 1) (if bs.getD v.toNat false = true ∨ v = a then out ++ [v] else out)
def impl_RolesUnder.f (k : Nat) (l0 : List S78) (a1 : Int) : Option (List Int) := if 0 ≤ a1 ∧ a1 ≤ 5 then (impl_below.f k l0 a1).bind fun bs => if bs.length = 6 then some (impl_RolesUnder.g bs a1 6 0 []) else none else some []
theorem impl_RolesUnder.mono : ∀ a0 a1 k, LeO (impl_RolesUnder.f k a0 a1) (impl_RolesUnder.f (k + 1) a0 a1) := by
  intro l a k r h
  unfold impl_RolesUnder.f at h ⊢
  split at h
  · rename_i c
    rw [if_pos c]
    cases hb : impl_below.f k l a with
    | none => rw [hb] at h; cases h
    | some bs =>
      rw [hb] at h
      rw [impl_below.mono l a k _ hb]
      exact h
  · rename_i c
    rw [if_neg c]
    exact h
set_option maxHeartbeats 8000000 in
set_option maxRecDepth 100000 in
theorem impl_RolesUnder.calls (k : Nat) (A0 : Option Addr) (c0 : Nat) (l0 : List S78) (a1 : Int) (r : List Int) (w : World) (hr0 : Kd.C k78 w A0 l0.length l0) (hc0 : l0.length ≤ c0) (h : impl_RolesUnder.f k l0 a1 = some r) :
    Calls Try.prog 33 #[.slice A0 l0.length c0, .int .i64 a1] w fun e w' => ∃ v0_ : Value, e = .returned (v0_) ∧ Kd.R (Kd.int .i64) 3 w' w.heap.size (fun _ => True) v0_ r ∧ Below w.heap.size w w' := by
  have HR0 := Aside0.mk hr0
  have HC0 := Aside0.mk hc0
  clear hr0 hc0
  have HB := Aside0.mk (Below.refl w.heap.size w)
  have hrole : impl_isRole.f a1 = some (decide (0 ≤ a1 ∧ a1 ≤ 5)) := by
    unfold impl_isRole.f impl_InRange.f
    by_cases h : 0 ≤ a1
    · rw [if_pos h]; simp [h]
    · rw [if_neg h]; simp [h]
  unfold impl_RolesUnder.f at h
  by_cases c1 : 0 ≤ a1 ∧ a1 ≤ 5
  · rw [if_pos c1] at h
    rw [decide_eq_true c1] at hrole
    cases hq : impl_below.f k l0 a1 with
    | none => rw [hq] at h; cases h
    | some bs =>
    rw [hq, Option.bind_some] at h
    by_cases hbl : bs.length = 6
    · rw [if_pos hbl] at h
      obtain ⟨b0, b1, b2, b3, b4, b5, rfl⟩ : ∃ b0 b1 b2 b3 b4 b5, bs = [b0, b1, b2, b3, b4, b5] := by
        match bs, hbl with
        | [b0, b1, b2, b3, b4, b5], _ => exact ⟨b0, b1, b2, b3, b4, b5, rfl⟩
      have HH := Aside0.mk (Option.some.inj h)
      have HQ := Aside0.mk hq
      clear h hq hbl c1
      go_enter Try.func33, Try.ntmps33
      go_wp2_with (first | ((with_reducible refine gate_dst (N := 8) rfl ?_); refine Kd.R_lit (Kd.int .i64) _ 3 ?hg (N := 8) ?hd (xs := ([] : List Int)) (inner := []) (ok := fun _ => True) (okp := fun _ => True) ?hr ?hp (fun _ hk => hk) trivial (Below.refl _ _) (Nat.le_refl _) (by simp) ?_; (case hd => rfl); (case hg => rfl); (case hr => first | (go_simp; done) | (go_simp; rfl)); (case hp => exact (Reps.none _ _)); intro v123 w2 ho3 hb hg_ hnew_; clear hg_ hnew_; have n0_ := Aside0.mk (Kd.R_lower ho3 (below_size (by repeat (first | (with_reducible first | exact HB.out | apply bA_ | apply bN_ | apply bD_) | exact HB.out)))); have n1_ := Aside0.mk (below_step (by repeat (first | (with_reducible first | exact HB.out | apply bA_ | apply bN_ | apply bD_) | exact HB.out)) hb); clear HB; have HO := n0_; have HB := n1_; clear n0_ n1_; clear hb ho3) | (go_at_call 70; refine (impl_isRole.calls a1 true _ hrole).mono ?_; rintro e w' ⟨rfl, ⟨nd, rfl⟩⟩) | (go_at_call 71; refine (impl_below.calls k A0 c0 l0 a1 [b0, b1, b2, b3, b4, b5] _ (Kd.C_below HR0.out (by repeat (first | (with_reducible first | exact HB.out | apply bA_ | apply bN_ | apply bD_) | exact HB.out))) HC0.out HQ.out).mono ?_; rintro e w10 ⟨rfl, hb'⟩; have HB10 := Aside0.mk (below_step (by repeat (first | (with_reducible first | exact HB.out | apply bA_ | apply bN_ | apply bD_) | exact HB.out)) hb'); have HO10 := Aside0.mk (Kd.R_below (by (with_reducible repeat (first | apply Kd.R_alloc | apply Kd.R_drewN | apply Kd.R_drew)); exact HO.out) hb'); clear hb'))
      clear HB HO
      obtain ⟨arr, harr⟩ : ∃ arr, arr = arrV [b0, b1, b2, b3, b4, b5] := ⟨_, rfl⟩
      rw [← harr]
      have HARR := Aside0.mk harr
      clear harr
      go_loopg [5, 16] 6 (fun kq v5 v16 w' => ∃ (x : List Int) (v : Int), v16 = .int .i64 v ∧ Aside0 (impl_RolesUnder.g [b0, b1, b2, b3, b4, b5] a1 kq v x = r) ∧ Aside0 (v = 6 - (kq : Int) ∧ kq ≤ 6) ∧ Aside0 (Kd.R (Kd.int .i64) 3 w' w.heap.size (fun _ => True) v5 x) ∧ Aside0 (Below w.heap.size w w') ∧ Aside0 (x.length ≤ 6 - kq))
      case atStart => exact ⟨[], 0, rfl, HH, ⟨by omega⟩, HO10, HB10, ⟨by simp⟩⟩
      case round =>
        clear HB10 HO10 HH
        obtain ⟨x, v, rfl, HG, HV, HO, HB, HXL⟩ := hrel
        cases gk with
        | zero =>
          have hv : decide (v < 6) = false := decide_eq_false (by have := HV.out; omega)
          go_wp2
          go_ret
          have hg := HG.out
          simp only [impl_RolesUnder.g] at hg
          subst hg
          exact ⟨_, rfl, HO.out, HB.out⟩
        | succ k1 =>
          have hv : decide (v < 6) = true := decide_eq_true (by have := HV.out; omega)
          have hw : IntKind.i64.wrap (v + 1) = v + 1 := by rw [IntKind.wrap_i64]; have := HV.out; omega
          have hg := HG.out
          clear HG
          simp only [impl_RolesUnder.g] at hg
          have hix : ∀ W : World, (Instr.index 89 (.agg arr) (.int .i64 v)).run Try.prog W = .ok (.bool ([b0, b1, b2, b3, b4, b5].getD v.toNat false)) W := by
            intro W
            rw [HARR.out]
            have hv' := HV.out
            have : v = 0 ∨ v = 1 ∨ v = 2 ∨ v = 3 ∨ v = 4 ∨ v = 5 := by omega
            rcases this with rfl | rfl | rfl | rfl | rfl | rfl <;> (simp [Instr.index, run_underlying Try.underlying89, asIntOf, arrV, go_sem]; done)
          generalize [b0, b1, b2, b3, b4, b5].getD v.toNat false = bb at hix hg
          cases bb with
          | true =>
            rw [if_pos (.inl rfl)] at hg
            have HG := Aside0.mk hg
            clear hg
            go_wp2_with (first | ((with_reducible refine gate_builtin (b := .append) (xs := #[.tmp 26, .tmp 28]) rfl ?_); at_builtin; refine Kd.R_append (Kd.int .i64) (w0 := w) w.heap.size rfl (.tmp 26) (.tmp 28) 26 3 (.int .i64 0) 8 rfl Try.underlying26 info3 rfl (by decide) (by omega) u5 x v [.int .i64 v] (fun _ => True) (fun _ => False) rfl rfl ?aP (fun _ hk => hk.elim) ?aF ?aO ?aB ?aS ?aL ?_; (case aP => exact rfl); (case aF => exact (fun _ _ => trivial)); (case aO => exact HO.out); (case aB => exact HB.out); (case aS => exact (below_size HB.out)); (case aL => have := HXL.out; omega); intro v127 w11 ho hb hg hat; have HB11 := Aside0.mk hb; have HO11 := Aside0.mk ho; clear ho hb hg hat))
            go_roundg k1
            case measure => omega
            case rel => exact ⟨x ++ [v], v + 1, (by first | rfl | go_num | (simp [*]; done)), HG, ⟨by have := HV.out; omega⟩, HO11, HB11, ⟨by have := HXL.out; rw [List.length_append]; simp; have := HV.out; omega⟩⟩
          | false =>
            by_cases he : v = a1
            · rw [if_pos (.inr he)] at hg
              have HG := Aside0.mk hg
              clear hg
              have he' : (v == a1) = true := beq_iff_eq.2 he
              clear he
              go_wp2_with (first | ((with_reducible refine gate_builtin (b := .append) (xs := #[.tmp 26, .tmp 28]) rfl ?_); at_builtin; refine Kd.R_append (Kd.int .i64) (w0 := w) w.heap.size rfl (.tmp 26) (.tmp 28) 26 3 (.int .i64 0) 8 rfl Try.underlying26 info3 rfl (by decide) (by omega) u5 x v [.int .i64 v] (fun _ => True) (fun _ => False) rfl rfl ?aP (fun _ hk => hk.elim) ?aF ?aO ?aB ?aS ?aL ?_; (case aP => exact rfl); (case aF => exact (fun _ _ => trivial)); (case aO => exact HO.out); (case aB => exact HB.out); (case aS => exact (below_size HB.out)); (case aL => have := HXL.out; omega); intro v127 w11 ho hb hg hat; have HB11 := Aside0.mk hb; have HO11 := Aside0.mk ho; clear ho hb hg hat))
              go_roundg k1
              case measure => omega
              case rel => exact ⟨x ++ [v], v + 1, (by first | rfl | go_num | (simp [*]; done)), HG, ⟨by have := HV.out; omega⟩, HO11, HB11, ⟨by have := HXL.out; rw [List.length_append]; simp; have := HV.out; omega⟩⟩
            · rw [if_neg (by rintro (h | h); exact Bool.noConfusion h; exact he h)] at hg
              have HG := Aside0.mk hg
              clear hg
              have he' : (v == a1) = false := beq_eq_false_iff_ne.2 he
              clear he
              go_wp2
              go_roundg k1
              case measure => omega
              case rel => exact ⟨x, v + 1, (by first | rfl | go_num | (simp [*]; done)), HG, ⟨by have := HV.out; omega⟩, HO, HB, ⟨by have := HXL.out; omega⟩⟩
    · rw [if_neg hbl] at h
      cases h
  · rw [if_neg c1] at h
    rw [decide_eq_false c1] at hrole
    obtain rfl := Option.some.inj h
    clear h
    go_enter Try.func33, Try.ntmps33
    go_wp2_with (first | ((with_reducible refine gate_dst (N := 8) rfl ?_); refine Kd.R_lit (Kd.int .i64) _ 3 ?hg (N := 8) ?hd (xs := ([] : List Int)) (inner := []) (ok := fun _ => True) (okp := fun _ => True) ?hr ?hp (fun _ hk => hk) trivial (Below.refl _ _) (Nat.le_refl _) (by simp) ?_; (case hd => rfl); (case hg => rfl); (case hr => first | (go_simp; done) | (go_simp; rfl)); (case hp => exact (Reps.none _ _)); intro v123 w2 ho3 hb hg_ hnew_; clear hg_ hnew_; have n0_ := Aside0.mk (Kd.R_lower ho3 (below_size (by repeat (first | (with_reducible first | exact HB.out | apply bA_ | apply bN_ | apply bD_) | exact HB.out)))); have n1_ := Aside0.mk (below_step (by repeat (first | (with_reducible first | exact HB.out | apply bA_ | apply bN_ | apply bD_) | exact HB.out)) hb); clear HB; have HO := n0_; have HB := n1_; clear n0_ n1_; clear hb ho3) | (go_at_call 70; refine (impl_isRole.calls a1 false _ hrole).mono ?_; rintro e w' ⟨rfl, ⟨nd, rfl⟩⟩))
    go_ret
    exact ⟨_, rfl, by (with_reducible repeat (first | apply Kd.R_alloc | apply Kd.R_drewN | apply Kd.R_drew)); exact HO.out, by repeat (first | (with_reducible first | exact HB.out | apply bA_ | apply bN_ | apply bD_) | exact HB.out)⟩

/-! ### impl_IsTime: function 78 -/
def impl_IsTime.f (a0 : Int) : Option (Bool) := (impl_InRange.f a0 0 10000).bind fun t102 => (some t102)
set_option maxHeartbeats 8000000 in
set_option maxRecDepth 100000 in
theorem impl_IsTime.calls (a0 : Int) (r : Bool) (w : World) (h : impl_IsTime.f a0 = some r) :
    Calls Try.prog 78 #[.int .i64 a0] w fun e w' => e = .returned (.bool r) ∧ Drawn0 w w' := by
  have H : ((impl_InRange.f a0 0 10000).bind fun t102 => (some t102)) = some r := h
  clear h
  replace H := Option.bind_eq_some_iff.mp H
  obtain ⟨t102, A20, H⟩ := H
  replace H : (some t102) = some r := H
  have A2 := Aside0.mk A20
  clear A20
  obtain rfl := Option.some.inj H
  go_enter Try.func78, Try.ntmps78
  go_wp2_with (first | ((with_reducible refine gate_callee (f := 87) rfl ?_); refine goesL_ (some 4) rfl rfl Try.func87 (by kernel_rfl) rfl #[.int .i64 a0, .int .i64 0, .int .i64 10000] rfl (by (try simp only [List.map_toArray, List.map_cons, List.map_nil]); first | done | rfl | (simp only [List.length_drop, List.length_take]; rfl)) ?_; (with_reducible refine (impl_InRange.calls a0 0 10000 t102 _ A2.out).mono ?_); rintro e w' ⟨rfl, ⟨nd, rfl⟩⟩; refine ⟨_, rfl, ?_⟩))
  go_ret
  exact ⟨by first | rfl | (simp; done) | (simp [*]; done), by repeat (first | exact Drawn0.refl _ | apply Drawn0.step)⟩

/-! ### impl_IsName: function 141 -/
def impl_IsName.f (a0 : Int) : Option (Bool) := (impl_InRange.f a0 10 49).bind fun t103 => (some t103)
set_option maxHeartbeats 8000000 in
set_option maxRecDepth 100000 in
theorem impl_IsName.calls (a0 : Int) (r : Bool) (w : World) (h : impl_IsName.f a0 = some r) :
    Calls Try.prog 141 #[.int .i64 a0] w fun e w' => e = .returned (.bool r) ∧ Drawn0 w w' := by
  have H : ((impl_InRange.f a0 10 49).bind fun t103 => (some t103)) = some r := h
  clear h
  replace H := Option.bind_eq_some_iff.mp H
  obtain ⟨t103, A20, H⟩ := H
  replace H : (some t103) = some r := H
  have A2 := Aside0.mk A20
  clear A20
  obtain rfl := Option.some.inj H
  go_enter Try.func141, Try.ntmps141
  go_wp2_with (first | ((with_reducible refine gate_callee (f := 87) rfl ?_); refine goesL_ (some 4) rfl rfl Try.func87 (by kernel_rfl) rfl #[.int .i64 a0, .int .i64 10, .int .i64 49] rfl (by (try simp only [List.map_toArray, List.map_cons, List.map_nil]); first | done | rfl | (simp only [List.length_drop, List.length_take]; rfl)) ?_; (with_reducible refine (impl_InRange.calls a0 10 49 t103 _ A2.out).mono ?_); rintro e w' ⟨rfl, ⟨nd, rfl⟩⟩; refine ⟨_, rfl, ?_⟩))
  go_ret
  exact ⟨by first | rfl | (simp; done) | (simp [*]; done), by repeat (first | exact Drawn0.refl _ | apply Drawn0.step)⟩

/-! ### impl_KindOf: function 142 -/
def impl_KindOf.f (a0 : Int) : Option (Int) := (impl_IsName.f a0).bind fun t104 => (if t104 = true then (some (wrap64 (Int.tdiv a0 10))) else (some 0))
set_option maxHeartbeats 8000000 in
set_option maxRecDepth 100000 in
theorem impl_KindOf.calls (a0 : Int) (r : Int) (w : World) (h : impl_KindOf.f a0 = some r) :
    Calls Try.prog 142 #[.int .i64 a0] w fun e w' => e = .returned (.int .i64 r) ∧ Drawn0 w w' := by
  have H : ((impl_IsName.f a0).bind fun t104 => (if t104 = true then (some (wrap64 (Int.tdiv a0 10))) else (some 0))) = some r := h
  clear h
  replace H := Option.bind_eq_some_iff.mp H
  obtain ⟨t104, A20, H⟩ := H
  replace H : (if t104 = true then (some (wrap64 (Int.tdiv a0 10))) else (some 0)) = some r := H
  have A2 := Aside0.mk A20
  clear A20
  by_cases c3 : t104 = true
  · subst c3
    have H1 : (some (wrap64 (Int.tdiv a0 10))) = some r := by rw [if_pos rfl] at H; exact H
    clear H
    have H := H1
    clear H1
    obtain rfl := Option.some.inj H
    go_enter Try.func142, Try.ntmps142
    go_wp2_with (first | ((with_reducible refine gate_callee (f := 141) rfl ?_); refine goesL_ (some 4) rfl rfl Try.func141 (by kernel_rfl) rfl #[.int .i64 a0] rfl (by (try simp only [List.map_toArray, List.map_cons, List.map_nil]); first | done | rfl | (simp only [List.length_drop, List.length_take]; rfl)) ?_; (with_reducible refine (impl_IsName.calls a0 true _ A2.out).mono ?_); rintro e w' ⟨rfl, ⟨nd, rfl⟩⟩; refine ⟨_, rfl, ?_⟩))
    go_ret
    exact ⟨by first | rfl | (simp; done) | (simp [*]; done), by repeat (first | exact Drawn0.refl _ | apply Drawn0.step)⟩
  · replace c3 := Bool.eq_false_iff.mpr c3
    subst c3
    have H1 : (some 0) = some r := by rw [if_neg (show ¬ (false = true) by decide)] at H; exact H
    clear H
    have H := H1
    clear H1
    obtain rfl := Option.some.inj H
    go_enter Try.func142, Try.ntmps142
    go_wp2_with (first | ((with_reducible refine gate_callee (f := 141) rfl ?_); refine goesL_ (some 4) rfl rfl Try.func141 (by kernel_rfl) rfl #[.int .i64 a0] rfl (by (try simp only [List.map_toArray, List.map_cons, List.map_nil]); first | done | rfl | (simp only [List.length_drop, List.length_take]; rfl)) ?_; (with_reducible refine (impl_IsName.calls a0 false _ A2.out).mono ?_); rintro e w' ⟨rfl, ⟨nd, rfl⟩⟩; refine ⟨_, rfl, ?_⟩))
    go_ret
    exact ⟨by first | rfl | (simp; done) | (simp [*]; done), by repeat (first | exact Drawn0.refl _ | apply Drawn0.step)⟩

/-! ### impl_HasKind: function 129 -/
def impl_HasKind.f (a0 : Int) (a1 : Int) : Option (Bool) := (impl_IsName.f a0).bind fun t105 => (if t105 = true then ((impl_KindOf.f a0).bind fun t106 => (some (t106 == a1))) else (some false))
set_option maxHeartbeats 8000000 in
set_option maxRecDepth 100000 in
theorem impl_HasKind.calls (a0 : Int) (a1 : Int) (r : Bool) (w : World) (h : impl_HasKind.f a0 a1 = some r) :
    Calls Try.prog 129 #[.int .i64 a0, .int .i64 a1] w fun e w' => e = .returned (.bool r) ∧ Drawn0 w w' := by
  have H : ((impl_IsName.f a0).bind fun t105 => (if t105 = true then ((impl_KindOf.f a0).bind fun t106 => (some (t106 == a1))) else (some false))) = some r := h
  clear h
  replace H := Option.bind_eq_some_iff.mp H
  obtain ⟨t105, A30, H⟩ := H
  replace H : (if t105 = true then ((impl_KindOf.f a0).bind fun t106 => (some (t106 == a1))) else (some false)) = some r := H
  have A3 := Aside0.mk A30
  clear A30
  by_cases c4 : t105 = true
  · subst c4
    have H1 : ((impl_KindOf.f a0).bind fun t106 => (some (t106 == a1))) = some r := by rw [if_pos rfl] at H; exact H
    clear H
    have H := H1
    clear H1
    replace H := Option.bind_eq_some_iff.mp H
    obtain ⟨t106, A50, H⟩ := H
    replace H : (some (t106 == a1)) = some r := H
    have A5 := Aside0.mk A50
    clear A50
    obtain rfl := Option.some.inj H
    go_enter Try.func129, Try.ntmps129
    go_wp2_with (first | ((with_reducible refine gate_callee (f := 141) rfl ?_); refine goesL_ (some 6) rfl rfl Try.func141 (by kernel_rfl) rfl #[.int .i64 a0] rfl (by (try simp only [List.map_toArray, List.map_cons, List.map_nil]); first | done | rfl | (simp only [List.length_drop, List.length_take]; rfl)) ?_; (with_reducible refine (impl_IsName.calls a0 true _ A3.out).mono ?_); rintro e w' ⟨rfl, ⟨nd, rfl⟩⟩; refine ⟨_, rfl, ?_⟩) | (go_at_call 142; (with_reducible refine (impl_KindOf.calls a0 t106 _ A5.out).mono ?_); rintro e w' ⟨rfl, ⟨nd, rfl⟩⟩))
    go_ret
    exact ⟨by first | rfl | (simp; done) | (simp [*]; done), by repeat (first | exact Drawn0.refl _ | apply Drawn0.step)⟩
  · replace c4 := Bool.eq_false_iff.mpr c4
    subst c4
    have H1 : (some false) = some r := by rw [if_neg (show ¬ (false = true) by decide)] at H; exact H
    clear H
    have H := H1
    clear H1
    obtain rfl := Option.some.inj H
    go_enter Try.func129, Try.ntmps129
    go_wp2_with (first | ((with_reducible refine gate_callee (f := 141) rfl ?_); refine goesL_ (some 6) rfl rfl Try.func141 (by kernel_rfl) rfl #[.int .i64 a0] rfl (by (try simp only [List.map_toArray, List.map_cons, List.map_nil]); first | done | rfl | (simp only [List.length_drop, List.length_take]; rfl)) ?_; (with_reducible refine (impl_IsName.calls a0 false _ A3.out).mono ?_); rintro e w' ⟨rfl, ⟨nd, rfl⟩⟩; refine ⟨_, rfl, ?_⟩))
    go_ret
    exact ⟨by first | rfl | (simp; done) | (simp [*]; done), by repeat (first | exact Drawn0.refl _ | apply Drawn0.step)⟩

/-! ### impl_isClaim: function 112 -/
def impl_isClaim.f (a0_0 : Int) (a0_1 : Int) (a0_2 : Int) (a0_3 : Int) (a0_4 : Int) (a0_5 : Int) : Option (Bool) := if a0_0 = 1 then ((impl_HasKind.f a0_1 1).bind fun t108 => (if t108 = true then ((impl_InRange.f a0_2 0 5).bind fun t109 => (some t109)) else (some false))) else (if a0_0 = 2 then ((impl_HasKind.f a0_1 1).bind fun t110 => (if t110 = true then ((impl_HasKind.f a0_2 2).bind fun t111 => (some t111)) else (some false))) else (if a0_0 = 3 then ((impl_HasKind.f a0_1 2).bind fun t112 => (if t112 = true then ((impl_InRange.f a0_2 0 3).bind fun t113 => (some t113)) else (some false))) else (if a0_0 = 4 then ((impl_HasKind.f a0_1 3).bind fun t114 => (if t114 = true then ((impl_InRange.f a0_2 0 3).bind fun t115 => (some t115)) else (some false))) else (some false))))
theorem z112_0 {Q : Prop} (g : Q := by repeat (first | (with_reducible first | exact HB.out | apply bA_ | apply bN_ | apply bD_) | exact HB.out)) : Q := g
theorem z112_1 {Q : Prop} (g : Q := by (try simp only [List.map_toArray, List.map_cons, List.map_nil]); first | done | rfl | (simp only [List.length_drop, List.length_take]; rfl)) : Q := g
theorem z112_2 {Q : Prop} (g : Q := by rw [hg]; exact (below_size z112_0)) : Q := g
set_option maxHeartbeats 8000000 in
set_option maxRecDepth 100000 in
theorem impl_isClaim.calls (a0_0 : Int) (a0_1 : Int) (a0_2 : Int) (a0_3 : Int) (a0_4 : Int) (a0_5 : Int) (r : Bool) (w : World) (h : impl_isClaim.f a0_0 a0_1 a0_2 a0_3 a0_4 a0_5 = some r) :
    Calls Try.prog 112 #[.agg #[.int .i64 a0_0, .int .i64 a0_1, .int .i64 a0_2, .int .i64 a0_3, .int .i64 a0_4, .int .i64 a0_5]] w fun e w' => e = .returned (.bool r) ∧ Below w.heap.size w w' := by
  have hu75 := Try.underlying75
  have HB := Aside0.mk (Below.refl w.heap.size w)
  have H : (if a0_0 = 1 then ((impl_HasKind.f a0_1 1).bind fun t108 => (if t108 = true then ((impl_InRange.f a0_2 0 5).bind fun t109 => (some t109)) else (some false))) else (if a0_0 = 2 then ((impl_HasKind.f a0_1 1).bind fun t110 => (if t110 = true then ((impl_HasKind.f a0_2 2).bind fun t111 => (some t111)) else (some false))) else (if a0_0 = 3 then ((impl_HasKind.f a0_1 2).bind fun t112 => (if t112 = true then ((impl_InRange.f a0_2 0 3).bind fun t113 => (some t113)) else (some false))) else (if a0_0 = 4 then ((impl_HasKind.f a0_1 3).bind fun t114 => (if t114 = true then ((impl_InRange.f a0_2 0 3).bind fun t115 => (some t115)) else (some false))) else (some false))))) = some r := h
  clear h
  by_cases c2 : a0_0 = 1
  · rw [if_pos c2] at H
    have c2b0 : (a0_0 == 1) = true := beq_iff_eq.mpr c2
    have c2b1 : (a0_0 != 1) = false := bne_eq_false_iff_eq.mpr c2
    clear c2
    replace H := Option.bind_eq_some_iff.mp H
    obtain ⟨t108, A30, H⟩ := H
    replace H : (if t108 = true then ((impl_InRange.f a0_2 0 5).bind fun t109 => (some t109)) else (some false)) = some r := H
    have A3 := Aside0.mk A30
    clear A30
    by_cases c4 : t108 = true
    · subst c4
      have H1 : ((impl_InRange.f a0_2 0 5).bind fun t109 => (some t109)) = some r := by rw [if_pos rfl] at H; exact H
      clear H
      have H := H1
      clear H1
      replace H := Option.bind_eq_some_iff.mp H
      obtain ⟨t109, A50, H⟩ := H
      replace H : (some t109) = some r := H
      have A5 := Aside0.mk A50
      clear A50
      obtain rfl := Option.some.inj H
      go_enter Try.func112, Try.ntmps112
      go_wp2_with (first | ((with_reducible refine gate_dst (N := 1) rfl ?_); refine box_event ?hg (N := 1) ?hd (cs := #[.int .i64 a0_0, .int .i64 a0_1, .int .i64 a0_2, .int .i64 a0_3, .int .i64 a0_4, .int .i64 a0_5]) (t := 75) ?hr ?_; (case hd => rfl); (case hg => rfl); (case hr => first | (go_simp; done) | (go_simp; rfl)); intro gb107 hg w6 hbox hb; have n0_ := Aside0.mk (below_step z112_0 hb); have n1_ := Aside0.mk (hbox); have n2_ := Aside0.mk ((z112_2 : w.heap.size ≤ gb107)); have n3_ := Aside0.mk ((z112_2 : w.heap.size ≤ gb107)); clear HB; have HB := n0_; have BK107 := n1_; have GW107 := n2_; have GE107 := n3_; clear n0_ n1_ n2_ n3_; clear hb hbox hg; have hcz7_0 : w6.cell? ⟨gb107, 0, none⟩ = some (.int .i64 a0_0) := (bC_ BK107.out 0).trans rfl; have hcz7_1 : w6.cell? ⟨gb107, 1, none⟩ = some (.int .i64 a0_1) := (bC_ BK107.out 1).trans rfl; have hcz7_2 : w6.cell? ⟨gb107, 2, none⟩ = some (.int .i64 a0_2) := (bC_ BK107.out 2).trans rfl; have hcz7_3 : w6.cell? ⟨gb107, 3, none⟩ = some (.int .i64 a0_3) := (bC_ BK107.out 3).trans rfl; have hcz7_4 : w6.cell? ⟨gb107, 4, none⟩ = some (.int .i64 a0_4) := (bC_ BK107.out 4).trans rfl; have hcz7_5 : w6.cell? ⟨gb107, 5, none⟩ = some (.int .i64 a0_5) := (bC_ BK107.out 5).trans rfl; have hfz7_0 := bF_ BK107.out 0; have hfz7_1 := bF_ BK107.out 1; have hfz7_2 := bF_ BK107.out 2; have hfz7_3 := bF_ BK107.out 3; have hfz7_4 := bF_ BK107.out 4; have hfz7_5 := bF_ BK107.out 5) | ((with_reducible refine gate_callee (f := 129) rfl ?_); refine goesL_ (some 9) rfl rfl Try.func129 (by kernel_rfl) rfl #[.int .i64 a0_1, .int .i64 1] rfl z112_1 ?_; (with_reducible refine (impl_HasKind.calls a0_1 1 true _ A3.out).mono ?_); rintro e w' ⟨rfl, ⟨nd, rfl⟩⟩; refine ⟨_, rfl, ?_⟩) | (go_at_call 87; (with_reducible refine (impl_InRange.calls a0_2 0 5 t109 _ A5.out).mono ?_); rintro e w' ⟨rfl, ⟨nd, rfl⟩⟩))
      go_ret
      exact ⟨by first | rfl | (simp [errW_none, errW_some] <;> rfl) | (simp [*, errW_none, errW_some] <;> rfl), by repeat (first | (with_reducible first | exact HB.out | apply bA_ | apply bN_ | apply bD_ | refine bS_ ?_ GE107.out) | exact HB.out)⟩
    · replace c4 := Bool.eq_false_iff.mpr c4
      subst c4
      have H1 : (some false) = some r := by rw [if_neg (show ¬ (false = true) by decide)] at H; exact H
      clear H
      have H := H1
      clear H1
      obtain rfl := Option.some.inj H
      go_enter Try.func112, Try.ntmps112
      go_wp2_with (first | ((with_reducible refine gate_dst (N := 1) rfl ?_); refine box_event ?hg (N := 1) ?hd (cs := #[.int .i64 a0_0, .int .i64 a0_1, .int .i64 a0_2, .int .i64 a0_3, .int .i64 a0_4, .int .i64 a0_5]) (t := 75) ?hr ?_; (case hd => rfl); (case hg => rfl); (case hr => first | (go_simp; done) | (go_simp; rfl)); intro gb107 hg w8 hbox hb; have n0_ := Aside0.mk (below_step z112_0 hb); have n1_ := Aside0.mk (hbox); have n2_ := Aside0.mk ((z112_2 : w.heap.size ≤ gb107)); have n3_ := Aside0.mk ((z112_2 : w.heap.size ≤ gb107)); clear HB; have HB := n0_; have BK107 := n1_; have GW107 := n2_; have GE107 := n3_; clear n0_ n1_ n2_ n3_; clear hb hbox hg; have hcz9_0 : w8.cell? ⟨gb107, 0, none⟩ = some (.int .i64 a0_0) := (bC_ BK107.out 0).trans rfl; have hcz9_1 : w8.cell? ⟨gb107, 1, none⟩ = some (.int .i64 a0_1) := (bC_ BK107.out 1).trans rfl; have hcz9_2 : w8.cell? ⟨gb107, 2, none⟩ = some (.int .i64 a0_2) := (bC_ BK107.out 2).trans rfl; have hcz9_3 : w8.cell? ⟨gb107, 3, none⟩ = some (.int .i64 a0_3) := (bC_ BK107.out 3).trans rfl; have hcz9_4 : w8.cell? ⟨gb107, 4, none⟩ = some (.int .i64 a0_4) := (bC_ BK107.out 4).trans rfl; have hcz9_5 : w8.cell? ⟨gb107, 5, none⟩ = some (.int .i64 a0_5) := (bC_ BK107.out 5).trans rfl; have hfz9_0 := bF_ BK107.out 0; have hfz9_1 := bF_ BK107.out 1; have hfz9_2 := bF_ BK107.out 2; have hfz9_3 := bF_ BK107.out 3; have hfz9_4 := bF_ BK107.out 4; have hfz9_5 := bF_ BK107.out 5) | ((with_reducible refine gate_callee (f := 129) rfl ?_); refine goesL_ (some 9) rfl rfl Try.func129 (by kernel_rfl) rfl #[.int .i64 a0_1, .int .i64 1] rfl z112_1 ?_; (with_reducible refine (impl_HasKind.calls a0_1 1 false _ A3.out).mono ?_); rintro e w' ⟨rfl, ⟨nd, rfl⟩⟩; refine ⟨_, rfl, ?_⟩))
      go_ret
      exact ⟨by first | rfl | (simp [errW_none, errW_some] <;> rfl) | (simp [*, errW_none, errW_some] <;> rfl), by repeat (first | (with_reducible first | exact HB.out | apply bA_ | apply bN_ | apply bD_ | refine bS_ ?_ GE107.out) | exact HB.out)⟩
  · rw [if_neg c2] at H
    have c2b0 : (a0_0 == 1) = false := beq_eq_false_iff_ne.mpr c2
    have c2b1 : (a0_0 != 1) = true := bne_iff_ne.mpr c2
    by_cases c10 : a0_0 = 2
    · rw [if_pos c10] at H
      have c10b0 : (a0_0 == 2) = true := beq_iff_eq.mpr c10
      have c10b1 : (a0_0 != 2) = false := bne_eq_false_iff_eq.mpr c10
      clear c10
      replace H := Option.bind_eq_some_iff.mp H
      obtain ⟨t110, A110, H⟩ := H
      replace H : (if t110 = true then ((impl_HasKind.f a0_2 2).bind fun t111 => (some t111)) else (some false)) = some r := H
      have A11 := Aside0.mk A110
      clear A110
      by_cases c12 : t110 = true
      · subst c12
        have H1 : ((impl_HasKind.f a0_2 2).bind fun t111 => (some t111)) = some r := by rw [if_pos rfl] at H; exact H
        clear H
        have H := H1
        clear H1
        replace H := Option.bind_eq_some_iff.mp H
        obtain ⟨t111, A130, H⟩ := H
        replace H : (some t111) = some r := H
        have A13 := Aside0.mk A130
        clear A130
        obtain rfl := Option.some.inj H
        go_enter Try.func112, Try.ntmps112
        go_wp2_with (first | ((with_reducible refine gate_dst (N := 1) rfl ?_); refine box_event ?hg (N := 1) ?hd (cs := #[.int .i64 a0_0, .int .i64 a0_1, .int .i64 a0_2, .int .i64 a0_3, .int .i64 a0_4, .int .i64 a0_5]) (t := 75) ?hr ?_; (case hd => rfl); (case hg => rfl); (case hr => first | (go_simp; done) | (go_simp; rfl)); intro gb107 hg w14 hbox hb; have n0_ := Aside0.mk (below_step z112_0 hb); have n1_ := Aside0.mk (hbox); have n2_ := Aside0.mk ((z112_2 : w.heap.size ≤ gb107)); have n3_ := Aside0.mk ((z112_2 : w.heap.size ≤ gb107)); clear HB; have HB := n0_; have BK107 := n1_; have GW107 := n2_; have GE107 := n3_; clear n0_ n1_ n2_ n3_; clear hb hbox hg; have hcz15_0 : w14.cell? ⟨gb107, 0, none⟩ = some (.int .i64 a0_0) := (bC_ BK107.out 0).trans rfl; have hcz15_1 : w14.cell? ⟨gb107, 1, none⟩ = some (.int .i64 a0_1) := (bC_ BK107.out 1).trans rfl; have hcz15_2 : w14.cell? ⟨gb107, 2, none⟩ = some (.int .i64 a0_2) := (bC_ BK107.out 2).trans rfl; have hcz15_3 : w14.cell? ⟨gb107, 3, none⟩ = some (.int .i64 a0_3) := (bC_ BK107.out 3).trans rfl; have hcz15_4 : w14.cell? ⟨gb107, 4, none⟩ = some (.int .i64 a0_4) := (bC_ BK107.out 4).trans rfl; have hcz15_5 : w14.cell? ⟨gb107, 5, none⟩ = some (.int .i64 a0_5) := (bC_ BK107.out 5).trans rfl; have hfz15_0 := bF_ BK107.out 0; have hfz15_1 := bF_ BK107.out 1; have hfz15_2 := bF_ BK107.out 2; have hfz15_3 := bF_ BK107.out 3; have hfz15_4 := bF_ BK107.out 4; have hfz15_5 := bF_ BK107.out 5) | ((with_reducible refine gate_callee (f := 129) rfl ?_); refine goesL_ (some 19) rfl rfl Try.func129 (by kernel_rfl) rfl #[.int .i64 a0_1, .int .i64 1] rfl z112_1 ?_; (with_reducible refine (impl_HasKind.calls a0_1 1 true _ A11.out).mono ?_); rintro e w' ⟨rfl, ⟨nd, rfl⟩⟩; refine ⟨_, rfl, ?_⟩) | (go_at_call 129; (with_reducible refine (impl_HasKind.calls a0_2 2 t111 _ A13.out).mono ?_); rintro e w' ⟨rfl, ⟨nd, rfl⟩⟩))
        go_ret
        exact ⟨by first | rfl | (simp [errW_none, errW_some] <;> rfl) | (simp [*, errW_none, errW_some] <;> rfl), by repeat (first | (with_reducible first | exact HB.out | apply bA_ | apply bN_ | apply bD_ | refine bS_ ?_ GE107.out) | exact HB.out)⟩
      · replace c12 := Bool.eq_false_iff.mpr c12
        subst c12
        have H1 : (some false) = some r := by rw [if_neg (show ¬ (false = true) by decide)] at H; exact H
        clear H
        have H := H1
        clear H1
        obtain rfl := Option.some.inj H
        go_enter Try.func112, Try.ntmps112
        go_wp2_with (first | ((with_reducible refine gate_dst (N := 1) rfl ?_); refine box_event ?hg (N := 1) ?hd (cs := #[.int .i64 a0_0, .int .i64 a0_1, .int .i64 a0_2, .int .i64 a0_3, .int .i64 a0_4, .int .i64 a0_5]) (t := 75) ?hr ?_; (case hd => rfl); (case hg => rfl); (case hr => first | (go_simp; done) | (go_simp; rfl)); intro gb107 hg w16 hbox hb; have n0_ := Aside0.mk (below_step z112_0 hb); have n1_ := Aside0.mk (hbox); have n2_ := Aside0.mk ((z112_2 : w.heap.size ≤ gb107)); have n3_ := Aside0.mk ((z112_2 : w.heap.size ≤ gb107)); clear HB; have HB := n0_; have BK107 := n1_; have GW107 := n2_; have GE107 := n3_; clear n0_ n1_ n2_ n3_; clear hb hbox hg; have hcz17_0 : w16.cell? ⟨gb107, 0, none⟩ = some (.int .i64 a0_0) := (bC_ BK107.out 0).trans rfl; have hcz17_1 : w16.cell? ⟨gb107, 1, none⟩ = some (.int .i64 a0_1) := (bC_ BK107.out 1).trans rfl; have hcz17_2 : w16.cell? ⟨gb107, 2, none⟩ = some (.int .i64 a0_2) := (bC_ BK107.out 2).trans rfl; have hcz17_3 : w16.cell? ⟨gb107, 3, none⟩ = some (.int .i64 a0_3) := (bC_ BK107.out 3).trans rfl; have hcz17_4 : w16.cell? ⟨gb107, 4, none⟩ = some (.int .i64 a0_4) := (bC_ BK107.out 4).trans rfl; have hcz17_5 : w16.cell? ⟨gb107, 5, none⟩ = some (.int .i64 a0_5) := (bC_ BK107.out 5).trans rfl; have hfz17_0 := bF_ BK107.out 0; have hfz17_1 := bF_ BK107.out 1; have hfz17_2 := bF_ BK107.out 2; have hfz17_3 := bF_ BK107.out 3; have hfz17_4 := bF_ BK107.out 4; have hfz17_5 := bF_ BK107.out 5) | ((with_reducible refine gate_callee (f := 129) rfl ?_); refine goesL_ (some 19) rfl rfl Try.func129 (by kernel_rfl) rfl #[.int .i64 a0_1, .int .i64 1] rfl z112_1 ?_; (with_reducible refine (impl_HasKind.calls a0_1 1 false _ A11.out).mono ?_); rintro e w' ⟨rfl, ⟨nd, rfl⟩⟩; refine ⟨_, rfl, ?_⟩))
        go_ret
        exact ⟨by first | rfl | (simp [errW_none, errW_some] <;> rfl) | (simp [*, errW_none, errW_some] <;> rfl), by repeat (first | (with_reducible first | exact HB.out | apply bA_ | apply bN_ | apply bD_ | refine bS_ ?_ GE107.out) | exact HB.out)⟩
    · rw [if_neg c10] at H
      have c10b0 : (a0_0 == 2) = false := beq_eq_false_iff_ne.mpr c10
      have c10b1 : (a0_0 != 2) = true := bne_iff_ne.mpr c10
      by_cases c18 : a0_0 = 3
      · rw [if_pos c18] at H
        have c18b0 : (a0_0 == 3) = true := beq_iff_eq.mpr c18
        have c18b1 : (a0_0 != 3) = false := bne_eq_false_iff_eq.mpr c18
        clear c18
        replace H := Option.bind_eq_some_iff.mp H
        obtain ⟨t112, A190, H⟩ := H
        replace H : (if t112 = true then ((impl_InRange.f a0_2 0 3).bind fun t113 => (some t113)) else (some false)) = some r := H
        have A19 := Aside0.mk A190
        clear A190
        by_cases c20 : t112 = true
        · subst c20
          have H1 : ((impl_InRange.f a0_2 0 3).bind fun t113 => (some t113)) = some r := by rw [if_pos rfl] at H; exact H
          clear H
          have H := H1
          clear H1
          replace H := Option.bind_eq_some_iff.mp H
          obtain ⟨t113, A210, H⟩ := H
          replace H : (some t113) = some r := H
          have A21 := Aside0.mk A210
          clear A210
          obtain rfl := Option.some.inj H
          go_enter Try.func112, Try.ntmps112
          go_wp2_with (first | ((with_reducible refine gate_dst (N := 1) rfl ?_); refine box_event ?hg (N := 1) ?hd (cs := #[.int .i64 a0_0, .int .i64 a0_1, .int .i64 a0_2, .int .i64 a0_3, .int .i64 a0_4, .int .i64 a0_5]) (t := 75) ?hr ?_; (case hd => rfl); (case hg => rfl); (case hr => first | (go_simp; done) | (go_simp; rfl)); intro gb107 hg w22 hbox hb; have n0_ := Aside0.mk (below_step z112_0 hb); have n1_ := Aside0.mk (hbox); have n2_ := Aside0.mk ((z112_2 : w.heap.size ≤ gb107)); have n3_ := Aside0.mk ((z112_2 : w.heap.size ≤ gb107)); clear HB; have HB := n0_; have BK107 := n1_; have GW107 := n2_; have GE107 := n3_; clear n0_ n1_ n2_ n3_; clear hb hbox hg; have hcz23_0 : w22.cell? ⟨gb107, 0, none⟩ = some (.int .i64 a0_0) := (bC_ BK107.out 0).trans rfl; have hcz23_1 : w22.cell? ⟨gb107, 1, none⟩ = some (.int .i64 a0_1) := (bC_ BK107.out 1).trans rfl; have hcz23_2 : w22.cell? ⟨gb107, 2, none⟩ = some (.int .i64 a0_2) := (bC_ BK107.out 2).trans rfl; have hcz23_3 : w22.cell? ⟨gb107, 3, none⟩ = some (.int .i64 a0_3) := (bC_ BK107.out 3).trans rfl; have hcz23_4 : w22.cell? ⟨gb107, 4, none⟩ = some (.int .i64 a0_4) := (bC_ BK107.out 4).trans rfl; have hcz23_5 : w22.cell? ⟨gb107, 5, none⟩ = some (.int .i64 a0_5) := (bC_ BK107.out 5).trans rfl; have hfz23_0 := bF_ BK107.out 0; have hfz23_1 := bF_ BK107.out 1; have hfz23_2 := bF_ BK107.out 2; have hfz23_3 := bF_ BK107.out 3; have hfz23_4 := bF_ BK107.out 4; have hfz23_5 := bF_ BK107.out 5) | ((with_reducible refine gate_callee (f := 129) rfl ?_); refine goesL_ (some 29) rfl rfl Try.func129 (by kernel_rfl) rfl #[.int .i64 a0_1, .int .i64 2] rfl z112_1 ?_; (with_reducible refine (impl_HasKind.calls a0_1 2 true _ A19.out).mono ?_); rintro e w' ⟨rfl, ⟨nd, rfl⟩⟩; refine ⟨_, rfl, ?_⟩) | (go_at_call 87; (with_reducible refine (impl_InRange.calls a0_2 0 3 t113 _ A21.out).mono ?_); rintro e w' ⟨rfl, ⟨nd, rfl⟩⟩))
          go_ret
          exact ⟨by first | rfl | (simp [errW_none, errW_some] <;> rfl) | (simp [*, errW_none, errW_some] <;> rfl), by repeat (first | (with_reducible first | exact HB.out | apply bA_ | apply bN_ | apply bD_ | refine bS_ ?_ GE107.out) | exact HB.out)⟩
        · replace c20 := Bool.eq_false_iff.mpr c20
          subst c20
          have H1 : (some false) = some r := by rw [if_neg (show ¬ (false = true) by decide)] at H; exact H
          clear H
          have H := H1
          clear H1
          obtain rfl := Option.some.inj H
          go_enter Try.func112, Try.ntmps112
          go_wp2_with (first | ((with_reducible refine gate_dst (N := 1) rfl ?_); refine box_event ?hg (N := 1) ?hd (cs := #[.int .i64 a0_0, .int .i64 a0_1, .int .i64 a0_2, .int .i64 a0_3, .int .i64 a0_4, .int .i64 a0_5]) (t := 75) ?hr ?_; (case hd => rfl); (case hg => rfl); (case hr => first | (go_simp; done) | (go_simp; rfl)); intro gb107 hg w24 hbox hb; have n0_ := Aside0.mk (below_step z112_0 hb); have n1_ := Aside0.mk (hbox); have n2_ := Aside0.mk ((z112_2 : w.heap.size ≤ gb107)); have n3_ := Aside0.mk ((z112_2 : w.heap.size ≤ gb107)); clear HB; have HB := n0_; have BK107 := n1_; have GW107 := n2_; have GE107 := n3_; clear n0_ n1_ n2_ n3_; clear hb hbox hg; have hcz25_0 : w24.cell? ⟨gb107, 0, none⟩ = some (.int .i64 a0_0) := (bC_ BK107.out 0).trans rfl; have hcz25_1 : w24.cell? ⟨gb107, 1, none⟩ = some (.int .i64 a0_1) := (bC_ BK107.out 1).trans rfl; have hcz25_2 : w24.cell? ⟨gb107, 2, none⟩ = some (.int .i64 a0_2) := (bC_ BK107.out 2).trans rfl; have hcz25_3 : w24.cell? ⟨gb107, 3, none⟩ = some (.int .i64 a0_3) := (bC_ BK107.out 3).trans rfl; have hcz25_4 : w24.cell? ⟨gb107, 4, none⟩ = some (.int .i64 a0_4) := (bC_ BK107.out 4).trans rfl; have hcz25_5 : w24.cell? ⟨gb107, 5, none⟩ = some (.int .i64 a0_5) := (bC_ BK107.out 5).trans rfl; have hfz25_0 := bF_ BK107.out 0; have hfz25_1 := bF_ BK107.out 1; have hfz25_2 := bF_ BK107.out 2; have hfz25_3 := bF_ BK107.out 3; have hfz25_4 := bF_ BK107.out 4; have hfz25_5 := bF_ BK107.out 5) | ((with_reducible refine gate_callee (f := 129) rfl ?_); refine goesL_ (some 29) rfl rfl Try.func129 (by kernel_rfl) rfl #[.int .i64 a0_1, .int .i64 2] rfl z112_1 ?_; (with_reducible refine (impl_HasKind.calls a0_1 2 false _ A19.out).mono ?_); rintro e w' ⟨rfl, ⟨nd, rfl⟩⟩; refine ⟨_, rfl, ?_⟩))
          go_ret
          exact ⟨by first | rfl | (simp [errW_none, errW_some] <;> rfl) | (simp [*, errW_none, errW_some] <;> rfl), by repeat (first | (with_reducible first | exact HB.out | apply bA_ | apply bN_ | apply bD_ | refine bS_ ?_ GE107.out) | exact HB.out)⟩
      · rw [if_neg c18] at H
        have c18b0 : (a0_0 == 3) = false := beq_eq_false_iff_ne.mpr c18
        have c18b1 : (a0_0 != 3) = true := bne_iff_ne.mpr c18
        by_cases c26 : a0_0 = 4
        · rw [if_pos c26] at H
          have c26b0 : (a0_0 == 4) = true := beq_iff_eq.mpr c26
          have c26b1 : (a0_0 != 4) = false := bne_eq_false_iff_eq.mpr c26
          clear c26
          replace H := Option.bind_eq_some_iff.mp H
          obtain ⟨t114, A270, H⟩ := H
          replace H : (if t114 = true then ((impl_InRange.f a0_2 0 3).bind fun t115 => (some t115)) else (some false)) = some r := H
          have A27 := Aside0.mk A270
          clear A270
          by_cases c28 : t114 = true
          · subst c28
            have H1 : ((impl_InRange.f a0_2 0 3).bind fun t115 => (some t115)) = some r := by rw [if_pos rfl] at H; exact H
            clear H
            have H := H1
            clear H1
            replace H := Option.bind_eq_some_iff.mp H
            obtain ⟨t115, A290, H⟩ := H
            replace H : (some t115) = some r := H
            have A29 := Aside0.mk A290
            clear A290
            obtain rfl := Option.some.inj H
            go_enter Try.func112, Try.ntmps112
            go_wp2_with (first | ((with_reducible refine gate_dst (N := 1) rfl ?_); refine box_event ?hg (N := 1) ?hd (cs := #[.int .i64 a0_0, .int .i64 a0_1, .int .i64 a0_2, .int .i64 a0_3, .int .i64 a0_4, .int .i64 a0_5]) (t := 75) ?hr ?_; (case hd => rfl); (case hg => rfl); (case hr => first | (go_simp; done) | (go_simp; rfl)); intro gb107 hg w30 hbox hb; have n0_ := Aside0.mk (below_step z112_0 hb); have n1_ := Aside0.mk (hbox); have n2_ := Aside0.mk ((z112_2 : w.heap.size ≤ gb107)); have n3_ := Aside0.mk ((z112_2 : w.heap.size ≤ gb107)); clear HB; have HB := n0_; have BK107 := n1_; have GW107 := n2_; have GE107 := n3_; clear n0_ n1_ n2_ n3_; clear hb hbox hg; have hcz31_0 : w30.cell? ⟨gb107, 0, none⟩ = some (.int .i64 a0_0) := (bC_ BK107.out 0).trans rfl; have hcz31_1 : w30.cell? ⟨gb107, 1, none⟩ = some (.int .i64 a0_1) := (bC_ BK107.out 1).trans rfl; have hcz31_2 : w30.cell? ⟨gb107, 2, none⟩ = some (.int .i64 a0_2) := (bC_ BK107.out 2).trans rfl; have hcz31_3 : w30.cell? ⟨gb107, 3, none⟩ = some (.int .i64 a0_3) := (bC_ BK107.out 3).trans rfl; have hcz31_4 : w30.cell? ⟨gb107, 4, none⟩ = some (.int .i64 a0_4) := (bC_ BK107.out 4).trans rfl; have hcz31_5 : w30.cell? ⟨gb107, 5, none⟩ = some (.int .i64 a0_5) := (bC_ BK107.out 5).trans rfl; have hfz31_0 := bF_ BK107.out 0; have hfz31_1 := bF_ BK107.out 1; have hfz31_2 := bF_ BK107.out 2; have hfz31_3 := bF_ BK107.out 3; have hfz31_4 := bF_ BK107.out 4; have hfz31_5 := bF_ BK107.out 5) | ((with_reducible refine gate_callee (f := 129) rfl ?_); refine goesL_ (some 39) rfl rfl Try.func129 (by kernel_rfl) rfl #[.int .i64 a0_1, .int .i64 3] rfl z112_1 ?_; (with_reducible refine (impl_HasKind.calls a0_1 3 true _ A27.out).mono ?_); rintro e w' ⟨rfl, ⟨nd, rfl⟩⟩; refine ⟨_, rfl, ?_⟩) | (go_at_call 87; (with_reducible refine (impl_InRange.calls a0_2 0 3 t115 _ A29.out).mono ?_); rintro e w' ⟨rfl, ⟨nd, rfl⟩⟩))
            go_ret
            exact ⟨by first | rfl | (simp [errW_none, errW_some] <;> rfl) | (simp [*, errW_none, errW_some] <;> rfl), by repeat (first | (with_reducible first | exact HB.out | apply bA_ | apply bN_ | apply bD_ | refine bS_ ?_ GE107.out) | exact HB.out)⟩
          · replace c28 := Bool.eq_false_iff.mpr c28
            subst c28
            have H1 : (some false) = some r := by rw [if_neg (show ¬ (false = true) by decide)] at H; exact H
            clear H
            have H := H1
            clear H1
            obtain rfl := Option.some.inj H
            go_enter Try.func112, Try.ntmps112
            go_wp2_with (first | ((with_reducible refine gate_dst (N := 1) rfl ?_); refine box_event ?hg (N := 1) ?hd (cs := #[.int .i64 a0_0, .int .i64 a0_1, .int .i64 a0_2, .int .i64 a0_3, .int .i64 a0_4, .int .i64 a0_5]) (t := 75) ?hr ?_; (case hd => rfl); (case hg => rfl); (case hr => first | (go_simp; done) | (go_simp; rfl)); intro gb107 hg w32 hbox hb; have n0_ := Aside0.mk (below_step z112_0 hb); have n1_ := Aside0.mk (hbox); have n2_ := Aside0.mk ((z112_2 : w.heap.size ≤ gb107)); have n3_ := Aside0.mk ((z112_2 : w.heap.size ≤ gb107)); clear HB; have HB := n0_; have BK107 := n1_; have GW107 := n2_; have GE107 := n3_; clear n0_ n1_ n2_ n3_; clear hb hbox hg; have hcz33_0 : w32.cell? ⟨gb107, 0, none⟩ = some (.int .i64 a0_0) := (bC_ BK107.out 0).trans rfl; have hcz33_1 : w32.cell? ⟨gb107, 1, none⟩ = some (.int .i64 a0_1) := (bC_ BK107.out 1).trans rfl; have hcz33_2 : w32.cell? ⟨gb107, 2, none⟩ = some (.int .i64 a0_2) := (bC_ BK107.out 2).trans rfl; have hcz33_3 : w32.cell? ⟨gb107, 3, none⟩ = some (.int .i64 a0_3) := (bC_ BK107.out 3).trans rfl; have hcz33_4 : w32.cell? ⟨gb107, 4, none⟩ = some (.int .i64 a0_4) := (bC_ BK107.out 4).trans rfl; have hcz33_5 : w32.cell? ⟨gb107, 5, none⟩ = some (.int .i64 a0_5) := (bC_ BK107.out 5).trans rfl; have hfz33_0 := bF_ BK107.out 0; have hfz33_1 := bF_ BK107.out 1; have hfz33_2 := bF_ BK107.out 2; have hfz33_3 := bF_ BK107.out 3; have hfz33_4 := bF_ BK107.out 4; have hfz33_5 := bF_ BK107.out 5) | ((with_reducible refine gate_callee (f := 129) rfl ?_); refine goesL_ (some 39) rfl rfl Try.func129 (by kernel_rfl) rfl #[.int .i64 a0_1, .int .i64 3] rfl z112_1 ?_; (with_reducible refine (impl_HasKind.calls a0_1 3 false _ A27.out).mono ?_); rintro e w' ⟨rfl, ⟨nd, rfl⟩⟩; refine ⟨_, rfl, ?_⟩))
            go_ret
            exact ⟨by first | rfl | (simp [errW_none, errW_some] <;> rfl) | (simp [*, errW_none, errW_some] <;> rfl), by repeat (first | (with_reducible first | exact HB.out | apply bA_ | apply bN_ | apply bD_ | refine bS_ ?_ GE107.out) | exact HB.out)⟩
        · rw [if_neg c26] at H
          have c26b0 : (a0_0 == 4) = false := beq_eq_false_iff_ne.mpr c26
          have c26b1 : (a0_0 != 4) = true := bne_iff_ne.mpr c26
          obtain rfl := Option.some.inj H
          go_enter Try.func112, Try.ntmps112
          go_wp2_with (first | ((with_reducible refine gate_dst (N := 1) rfl ?_); refine box_event ?hg (N := 1) ?hd (cs := #[.int .i64 a0_0, .int .i64 a0_1, .int .i64 a0_2, .int .i64 a0_3, .int .i64 a0_4, .int .i64 a0_5]) (t := 75) ?hr ?_; (case hd => rfl); (case hg => rfl); (case hr => first | (go_simp; done) | (go_simp; rfl)); intro gb107 hg w34 hbox hb; have n0_ := Aside0.mk (below_step z112_0 hb); have n1_ := Aside0.mk (hbox); have n2_ := Aside0.mk ((z112_2 : w.heap.size ≤ gb107)); have n3_ := Aside0.mk ((z112_2 : w.heap.size ≤ gb107)); clear HB; have HB := n0_; have BK107 := n1_; have GW107 := n2_; have GE107 := n3_; clear n0_ n1_ n2_ n3_; clear hb hbox hg; have hcz35_0 : w34.cell? ⟨gb107, 0, none⟩ = some (.int .i64 a0_0) := (bC_ BK107.out 0).trans rfl; have hcz35_1 : w34.cell? ⟨gb107, 1, none⟩ = some (.int .i64 a0_1) := (bC_ BK107.out 1).trans rfl; have hcz35_2 : w34.cell? ⟨gb107, 2, none⟩ = some (.int .i64 a0_2) := (bC_ BK107.out 2).trans rfl; have hcz35_3 : w34.cell? ⟨gb107, 3, none⟩ = some (.int .i64 a0_3) := (bC_ BK107.out 3).trans rfl; have hcz35_4 : w34.cell? ⟨gb107, 4, none⟩ = some (.int .i64 a0_4) := (bC_ BK107.out 4).trans rfl; have hcz35_5 : w34.cell? ⟨gb107, 5, none⟩ = some (.int .i64 a0_5) := (bC_ BK107.out 5).trans rfl; have hfz35_0 := bF_ BK107.out 0; have hfz35_1 := bF_ BK107.out 1; have hfz35_2 := bF_ BK107.out 2; have hfz35_3 := bF_ BK107.out 3; have hfz35_4 := bF_ BK107.out 4; have hfz35_5 := bF_ BK107.out 5))
          go_ret
          exact ⟨by first | rfl | (simp [errW_none, errW_some] <;> rfl) | (simp [*, errW_none, errW_some] <;> rfl), by repeat (first | (with_reducible first | exact HB.out | apply bA_ | apply bN_ | apply bD_ | refine bS_ ?_ GE107.out) | exact HB.out)⟩

/-! ### impl_IsFact: function 97 -/
def impl_IsFact.f (a0_0 : Int) (a0_1 : Int) (a0_2 : Int) (a0_3 : Int) (a0_4 : Int) (a0_5 : Int) : Option (Bool) := (impl_isClaim.f a0_0 a0_1 a0_2 a0_3 a0_4 a0_5).bind fun t117 => (if t117 = true then ((impl_InRange.f a0_3 0 9).bind fun t118 => (if t118 = true then ((impl_IsTime.f a0_4).bind fun t119 => (if t119 = true then ((impl_IsTime.f a0_5).bind fun t120 => (if t120 = true then (some (decide (a0_4 ≤ a0_5))) else (some false))) else (some false))) else (some false))) else (some false))
theorem pB97_ {P Q : Prop} (h : P) (g : P → Q := by intro h_; (with_reducible repeat (first | refine blk_drewN ?_ _ | refine blk_drew ?_ | refine blk_alloc ?_ _)); exact h_) : Q := g h
theorem z97_0 {Q : Prop} (g : Q := by repeat (first | (with_reducible first | exact HB.out | apply bA_ | apply bN_ | apply bD_) | exact HB.out)) : Q := g
theorem z97_1 {Q : Prop} (g : Q := by repeat (first | (with_reducible first | exact HB.out | apply bA_ | apply bN_ | apply bD_ | refine bS_ ?_ GE116.out) | exact HB.out)) : Q := g
theorem z97_2 {Q : Prop} (g : Q := by (try simp only [List.map_toArray, List.map_cons, List.map_nil]); first | done | rfl | (simp only [List.length_drop, List.length_take]; rfl)) : Q := g
theorem z97_3 {Q : Prop} (g : Q := by rw [hg]; exact (below_size z97_0)) : Q := g
set_option maxHeartbeats 8000000 in
set_option maxRecDepth 100000 in
theorem impl_IsFact.calls (a0_0 : Int) (a0_1 : Int) (a0_2 : Int) (a0_3 : Int) (a0_4 : Int) (a0_5 : Int) (r : Bool) (w : World) (h : impl_IsFact.f a0_0 a0_1 a0_2 a0_3 a0_4 a0_5 = some r) :
    Calls Try.prog 97 #[.agg #[.int .i64 a0_0, .int .i64 a0_1, .int .i64 a0_2, .int .i64 a0_3, .int .i64 a0_4, .int .i64 a0_5]] w fun e w' => e = .returned (.bool r) ∧ Below w.heap.size w w' := by
  have hu75 := Try.underlying75
  have HB := Aside0.mk (Below.refl w.heap.size w)
  have H : ((impl_isClaim.f a0_0 a0_1 a0_2 a0_3 a0_4 a0_5).bind fun t117 => (if t117 = true then ((impl_InRange.f a0_3 0 9).bind fun t118 => (if t118 = true then ((impl_IsTime.f a0_4).bind fun t119 => (if t119 = true then ((impl_IsTime.f a0_5).bind fun t120 => (if t120 = true then (some (decide (a0_4 ≤ a0_5))) else (some false))) else (some false))) else (some false))) else (some false))) = some r := h
  clear h
  replace H := Option.bind_eq_some_iff.mp H
  obtain ⟨t117, A20, H⟩ := H
  replace H : (if t117 = true then ((impl_InRange.f a0_3 0 9).bind fun t118 => (if t118 = true then ((impl_IsTime.f a0_4).bind fun t119 => (if t119 = true then ((impl_IsTime.f a0_5).bind fun t120 => (if t120 = true then (some (decide (a0_4 ≤ a0_5))) else (some false))) else (some false))) else (some false))) else (some false)) = some r := H
  have A2 := Aside0.mk A20
  clear A20
  by_cases c3 : t117 = true
  · subst c3
    have H1 : ((impl_InRange.f a0_3 0 9).bind fun t118 => (if t118 = true then ((impl_IsTime.f a0_4).bind fun t119 => (if t119 = true then ((impl_IsTime.f a0_5).bind fun t120 => (if t120 = true then (some (decide (a0_4 ≤ a0_5))) else (some false))) else (some false))) else (some false))) = some r := by rw [if_pos rfl] at H; exact H
    clear H
    have H := H1
    clear H1
    replace H := Option.bind_eq_some_iff.mp H
    obtain ⟨t118, A40, H⟩ := H
    replace H : (if t118 = true then ((impl_IsTime.f a0_4).bind fun t119 => (if t119 = true then ((impl_IsTime.f a0_5).bind fun t120 => (if t120 = true then (some (decide (a0_4 ≤ a0_5))) else (some false))) else (some false))) else (some false)) = some r := H
    have A4 := Aside0.mk A40
    clear A40
    by_cases c5 : t118 = true
    · subst c5
      have H1 : ((impl_IsTime.f a0_4).bind fun t119 => (if t119 = true then ((impl_IsTime.f a0_5).bind fun t120 => (if t120 = true then (some (decide (a0_4 ≤ a0_5))) else (some false))) else (some false))) = some r := by rw [if_pos rfl] at H; exact H
      clear H
      have H := H1
      clear H1
      replace H := Option.bind_eq_some_iff.mp H
      obtain ⟨t119, A60, H⟩ := H
      replace H : (if t119 = true then ((impl_IsTime.f a0_5).bind fun t120 => (if t120 = true then (some (decide (a0_4 ≤ a0_5))) else (some false))) else (some false)) = some r := H
      have A6 := Aside0.mk A60
      clear A60
      by_cases c7 : t119 = true
      · subst c7
        have H1 : ((impl_IsTime.f a0_5).bind fun t120 => (if t120 = true then (some (decide (a0_4 ≤ a0_5))) else (some false))) = some r := by rw [if_pos rfl] at H; exact H
        clear H
        have H := H1
        clear H1
        replace H := Option.bind_eq_some_iff.mp H
        obtain ⟨t120, A80, H⟩ := H
        replace H : (if t120 = true then (some (decide (a0_4 ≤ a0_5))) else (some false)) = some r := H
        have A8 := Aside0.mk A80
        clear A80
        by_cases c9 : t120 = true
        · subst c9
          have H1 : (some (decide (a0_4 ≤ a0_5))) = some r := by rw [if_pos rfl] at H; exact H
          clear H
          have H := H1
          clear H1
          obtain rfl := Option.some.inj H
          go_enter Try.func97, Try.ntmps97
          go_wp2_with (first | ((with_reducible refine gate_dst (N := 1) rfl ?_); refine box_event ?hg (N := 1) ?hd (cs := #[.int .i64 a0_0, .int .i64 a0_1, .int .i64 a0_2, .int .i64 a0_3, .int .i64 a0_4, .int .i64 a0_5]) (t := 75) ?hr ?_; (case hd => rfl); (case hg => rfl); (case hr => first | (go_simp; done) | (go_simp; rfl)); intro gb116 hg w10 hbox hb; have n0_ := Aside0.mk (below_step z97_0 hb); have n1_ := Aside0.mk (hbox); have n2_ := Aside0.mk ((z97_3 : w.heap.size ≤ gb116)); have n3_ := Aside0.mk ((z97_3 : w.heap.size ≤ gb116)); clear HB; have HB := n0_; have BK116 := n1_; have GW116 := n2_; have GE116 := n3_; clear n0_ n1_ n2_ n3_; clear hb hbox hg; have hcz11_0 : w10.cell? ⟨gb116, 0, none⟩ = some (.int .i64 a0_0) := (bC_ BK116.out 0).trans rfl; have hcz11_1 : w10.cell? ⟨gb116, 1, none⟩ = some (.int .i64 a0_1) := (bC_ BK116.out 1).trans rfl; have hcz11_2 : w10.cell? ⟨gb116, 2, none⟩ = some (.int .i64 a0_2) := (bC_ BK116.out 2).trans rfl; have hcz11_3 : w10.cell? ⟨gb116, 3, none⟩ = some (.int .i64 a0_3) := (bC_ BK116.out 3).trans rfl; have hcz11_4 : w10.cell? ⟨gb116, 4, none⟩ = some (.int .i64 a0_4) := (bC_ BK116.out 4).trans rfl; have hcz11_5 : w10.cell? ⟨gb116, 5, none⟩ = some (.int .i64 a0_5) := (bC_ BK116.out 5).trans rfl; have hfz11_0 := bF_ BK116.out 0; have hfz11_1 := bF_ BK116.out 1; have hfz11_2 := bF_ BK116.out 2; have hfz11_3 := bF_ BK116.out 3; have hfz11_4 := bF_ BK116.out 4; have hfz11_5 := bF_ BK116.out 5) | ((with_reducible refine gate_callee (f := 112) rfl ?_); refine goesL_ (some 4) rfl rfl Try.func112 (by kernel_rfl) rfl #[.agg #[.int .i64 a0_0, .int .i64 a0_1, .int .i64 a0_2, .int .i64 a0_3, .int .i64 a0_4, .int .i64 a0_5]] rfl z97_2 ?_; (with_reducible refine (impl_isClaim.calls a0_0 a0_1 a0_2 a0_3 a0_4 a0_5 true _ A2.out).mono ?_); rintro e w12 ⟨rfl, hb⟩; refine ⟨_, rfl, ?_⟩; have n0_ := Aside0.mk (blk_below (g := gb116) (o := .cells #[.int .i64 a0_0, .int .i64 a0_1, .int .i64 a0_2, .int .i64 a0_3, .int .i64 a0_4, .int .i64 a0_5] 75 (0, 0)) (pB97_ BK116.out) hb); have n1_ := Aside0.mk (below_step z97_1 hb); clear BK116; clear HB; have BK116 := n0_; have HB := n1_; clear n0_ n1_; (try clear hb); (try clear hb2); (try clear hk); (try clear hi); have hcz13_0 : w12.cell? ⟨gb116, 0, none⟩ = some (.int .i64 a0_0) := (bC_ BK116.out 0).trans rfl; have hcz13_1 : w12.cell? ⟨gb116, 1, none⟩ = some (.int .i64 a0_1) := (bC_ BK116.out 1).trans rfl; have hcz13_2 : w12.cell? ⟨gb116, 2, none⟩ = some (.int .i64 a0_2) := (bC_ BK116.out 2).trans rfl; have hcz13_3 : w12.cell? ⟨gb116, 3, none⟩ = some (.int .i64 a0_3) := (bC_ BK116.out 3).trans rfl; have hcz13_4 : w12.cell? ⟨gb116, 4, none⟩ = some (.int .i64 a0_4) := (bC_ BK116.out 4).trans rfl; have hcz13_5 : w12.cell? ⟨gb116, 5, none⟩ = some (.int .i64 a0_5) := (bC_ BK116.out 5).trans rfl; have hfz13_0 := bF_ BK116.out 0; have hfz13_1 := bF_ BK116.out 1; have hfz13_2 := bF_ BK116.out 2; have hfz13_3 := bF_ BK116.out 3; have hfz13_4 := bF_ BK116.out 4; have hfz13_5 := bF_ BK116.out 5) | (go_at_call 87; (with_reducible refine (impl_InRange.calls a0_3 0 9 true _ A4.out).mono ?_); rintro e w' ⟨rfl, ⟨nd, rfl⟩⟩) | (go_at_call 78; (with_reducible refine (impl_IsTime.calls a0_4 true _ A6.out).mono ?_); rintro e w' ⟨rfl, ⟨nd, rfl⟩⟩) | (go_at_call 78; (with_reducible refine (impl_IsTime.calls a0_5 true _ A8.out).mono ?_); rintro e w' ⟨rfl, ⟨nd, rfl⟩⟩))
          go_ret
          exact ⟨by first | rfl | (simp [errW_none, errW_some] <;> rfl) | (simp [*, errW_none, errW_some] <;> rfl), by repeat (first | (with_reducible first | exact HB.out | apply bA_ | apply bN_ | apply bD_ | refine bS_ ?_ GE116.out) | exact HB.out)⟩
        · replace c9 := Bool.eq_false_iff.mpr c9
          subst c9
          have H1 : (some false) = some r := by rw [if_neg (show ¬ (false = true) by decide)] at H; exact H
          clear H
          have H := H1
          clear H1
          obtain rfl := Option.some.inj H
          go_enter Try.func97, Try.ntmps97
          go_wp2_with (first | ((with_reducible refine gate_dst (N := 1) rfl ?_); refine box_event ?hg (N := 1) ?hd (cs := #[.int .i64 a0_0, .int .i64 a0_1, .int .i64 a0_2, .int .i64 a0_3, .int .i64 a0_4, .int .i64 a0_5]) (t := 75) ?hr ?_; (case hd => rfl); (case hg => rfl); (case hr => first | (go_simp; done) | (go_simp; rfl)); intro gb116 hg w14 hbox hb; have n0_ := Aside0.mk (below_step z97_0 hb); have n1_ := Aside0.mk (hbox); have n2_ := Aside0.mk ((z97_3 : w.heap.size ≤ gb116)); have n3_ := Aside0.mk ((z97_3 : w.heap.size ≤ gb116)); clear HB; have HB := n0_; have BK116 := n1_; have GW116 := n2_; have GE116 := n3_; clear n0_ n1_ n2_ n3_; clear hb hbox hg; have hcz15_0 : w14.cell? ⟨gb116, 0, none⟩ = some (.int .i64 a0_0) := (bC_ BK116.out 0).trans rfl; have hcz15_1 : w14.cell? ⟨gb116, 1, none⟩ = some (.int .i64 a0_1) := (bC_ BK116.out 1).trans rfl; have hcz15_2 : w14.cell? ⟨gb116, 2, none⟩ = some (.int .i64 a0_2) := (bC_ BK116.out 2).trans rfl; have hcz15_3 : w14.cell? ⟨gb116, 3, none⟩ = some (.int .i64 a0_3) := (bC_ BK116.out 3).trans rfl; have hcz15_4 : w14.cell? ⟨gb116, 4, none⟩ = some (.int .i64 a0_4) := (bC_ BK116.out 4).trans rfl; have hcz15_5 : w14.cell? ⟨gb116, 5, none⟩ = some (.int .i64 a0_5) := (bC_ BK116.out 5).trans rfl; have hfz15_0 := bF_ BK116.out 0; have hfz15_1 := bF_ BK116.out 1; have hfz15_2 := bF_ BK116.out 2; have hfz15_3 := bF_ BK116.out 3; have hfz15_4 := bF_ BK116.out 4; have hfz15_5 := bF_ BK116.out 5) | ((with_reducible refine gate_callee (f := 112) rfl ?_); refine goesL_ (some 4) rfl rfl Try.func112 (by kernel_rfl) rfl #[.agg #[.int .i64 a0_0, .int .i64 a0_1, .int .i64 a0_2, .int .i64 a0_3, .int .i64 a0_4, .int .i64 a0_5]] rfl z97_2 ?_; (with_reducible refine (impl_isClaim.calls a0_0 a0_1 a0_2 a0_3 a0_4 a0_5 true _ A2.out).mono ?_); rintro e w16 ⟨rfl, hb⟩; refine ⟨_, rfl, ?_⟩; have n0_ := Aside0.mk (blk_below (g := gb116) (o := .cells #[.int .i64 a0_0, .int .i64 a0_1, .int .i64 a0_2, .int .i64 a0_3, .int .i64 a0_4, .int .i64 a0_5] 75 (0, 0)) (pB97_ BK116.out) hb); have n1_ := Aside0.mk (below_step z97_1 hb); clear BK116; clear HB; have BK116 := n0_; have HB := n1_; clear n0_ n1_; (try clear hb); (try clear hb2); (try clear hk); (try clear hi); have hcz17_0 : w16.cell? ⟨gb116, 0, none⟩ = some (.int .i64 a0_0) := (bC_ BK116.out 0).trans rfl; have hcz17_1 : w16.cell? ⟨gb116, 1, none⟩ = some (.int .i64 a0_1) := (bC_ BK116.out 1).trans rfl; have hcz17_2 : w16.cell? ⟨gb116, 2, none⟩ = some (.int .i64 a0_2) := (bC_ BK116.out 2).trans rfl; have hcz17_3 : w16.cell? ⟨gb116, 3, none⟩ = some (.int .i64 a0_3) := (bC_ BK116.out 3).trans rfl; have hcz17_4 : w16.cell? ⟨gb116, 4, none⟩ = some (.int .i64 a0_4) := (bC_ BK116.out 4).trans rfl; have hcz17_5 : w16.cell? ⟨gb116, 5, none⟩ = some (.int .i64 a0_5) := (bC_ BK116.out 5).trans rfl; have hfz17_0 := bF_ BK116.out 0; have hfz17_1 := bF_ BK116.out 1; have hfz17_2 := bF_ BK116.out 2; have hfz17_3 := bF_ BK116.out 3; have hfz17_4 := bF_ BK116.out 4; have hfz17_5 := bF_ BK116.out 5) | (go_at_call 87; (with_reducible refine (impl_InRange.calls a0_3 0 9 true _ A4.out).mono ?_); rintro e w' ⟨rfl, ⟨nd, rfl⟩⟩) | (go_at_call 78; (with_reducible refine (impl_IsTime.calls a0_4 true _ A6.out).mono ?_); rintro e w' ⟨rfl, ⟨nd, rfl⟩⟩) | (go_at_call 78; (with_reducible refine (impl_IsTime.calls a0_5 false _ A8.out).mono ?_); rintro e w' ⟨rfl, ⟨nd, rfl⟩⟩))
          go_ret
          exact ⟨by first | rfl | (simp [errW_none, errW_some] <;> rfl) | (simp [*, errW_none, errW_some] <;> rfl), by repeat (first | (with_reducible first | exact HB.out | apply bA_ | apply bN_ | apply bD_ | refine bS_ ?_ GE116.out) | exact HB.out)⟩
      · replace c7 := Bool.eq_false_iff.mpr c7
        subst c7
        have H1 : (some false) = some r := by rw [if_neg (show ¬ (false = true) by decide)] at H; exact H
        clear H
        have H := H1
        clear H1
        obtain rfl := Option.some.inj H
        go_enter Try.func97, Try.ntmps97
        go_wp2_with (first | ((with_reducible refine gate_dst (N := 1) rfl ?_); refine box_event ?hg (N := 1) ?hd (cs := #[.int .i64 a0_0, .int .i64 a0_1, .int .i64 a0_2, .int .i64 a0_3, .int .i64 a0_4, .int .i64 a0_5]) (t := 75) ?hr ?_; (case hd => rfl); (case hg => rfl); (case hr => first | (go_simp; done) | (go_simp; rfl)); intro gb116 hg w18 hbox hb; have n0_ := Aside0.mk (below_step z97_0 hb); have n1_ := Aside0.mk (hbox); have n2_ := Aside0.mk ((z97_3 : w.heap.size ≤ gb116)); have n3_ := Aside0.mk ((z97_3 : w.heap.size ≤ gb116)); clear HB; have HB := n0_; have BK116 := n1_; have GW116 := n2_; have GE116 := n3_; clear n0_ n1_ n2_ n3_; clear hb hbox hg; have hcz19_0 : w18.cell? ⟨gb116, 0, none⟩ = some (.int .i64 a0_0) := (bC_ BK116.out 0).trans rfl; have hcz19_1 : w18.cell? ⟨gb116, 1, none⟩ = some (.int .i64 a0_1) := (bC_ BK116.out 1).trans rfl; have hcz19_2 : w18.cell? ⟨gb116, 2, none⟩ = some (.int .i64 a0_2) := (bC_ BK116.out 2).trans rfl; have hcz19_3 : w18.cell? ⟨gb116, 3, none⟩ = some (.int .i64 a0_3) := (bC_ BK116.out 3).trans rfl; have hcz19_4 : w18.cell? ⟨gb116, 4, none⟩ = some (.int .i64 a0_4) := (bC_ BK116.out 4).trans rfl; have hcz19_5 : w18.cell? ⟨gb116, 5, none⟩ = some (.int .i64 a0_5) := (bC_ BK116.out 5).trans rfl; have hfz19_0 := bF_ BK116.out 0; have hfz19_1 := bF_ BK116.out 1; have hfz19_2 := bF_ BK116.out 2; have hfz19_3 := bF_ BK116.out 3; have hfz19_4 := bF_ BK116.out 4; have hfz19_5 := bF_ BK116.out 5) | ((with_reducible refine gate_callee (f := 112) rfl ?_); refine goesL_ (some 4) rfl rfl Try.func112 (by kernel_rfl) rfl #[.agg #[.int .i64 a0_0, .int .i64 a0_1, .int .i64 a0_2, .int .i64 a0_3, .int .i64 a0_4, .int .i64 a0_5]] rfl z97_2 ?_; (with_reducible refine (impl_isClaim.calls a0_0 a0_1 a0_2 a0_3 a0_4 a0_5 true _ A2.out).mono ?_); rintro e w20 ⟨rfl, hb⟩; refine ⟨_, rfl, ?_⟩; have n0_ := Aside0.mk (blk_below (g := gb116) (o := .cells #[.int .i64 a0_0, .int .i64 a0_1, .int .i64 a0_2, .int .i64 a0_3, .int .i64 a0_4, .int .i64 a0_5] 75 (0, 0)) (pB97_ BK116.out) hb); have n1_ := Aside0.mk (below_step z97_1 hb); clear BK116; clear HB; have BK116 := n0_; have HB := n1_; clear n0_ n1_; (try clear hb); (try clear hb2); (try clear hk); (try clear hi); have hcz21_0 : w20.cell? ⟨gb116, 0, none⟩ = some (.int .i64 a0_0) := (bC_ BK116.out 0).trans rfl; have hcz21_1 : w20.cell? ⟨gb116, 1, none⟩ = some (.int .i64 a0_1) := (bC_ BK116.out 1).trans rfl; have hcz21_2 : w20.cell? ⟨gb116, 2, none⟩ = some (.int .i64 a0_2) := (bC_ BK116.out 2).trans rfl; have hcz21_3 : w20.cell? ⟨gb116, 3, none⟩ = some (.int .i64 a0_3) := (bC_ BK116.out 3).trans rfl; have hcz21_4 : w20.cell? ⟨gb116, 4, none⟩ = some (.int .i64 a0_4) := (bC_ BK116.out 4).trans rfl; have hcz21_5 : w20.cell? ⟨gb116, 5, none⟩ = some (.int .i64 a0_5) := (bC_ BK116.out 5).trans rfl; have hfz21_0 := bF_ BK116.out 0; have hfz21_1 := bF_ BK116.out 1; have hfz21_2 := bF_ BK116.out 2; have hfz21_3 := bF_ BK116.out 3; have hfz21_4 := bF_ BK116.out 4; have hfz21_5 := bF_ BK116.out 5) | (go_at_call 87; (with_reducible refine (impl_InRange.calls a0_3 0 9 true _ A4.out).mono ?_); rintro e w' ⟨rfl, ⟨nd, rfl⟩⟩) | (go_at_call 78; (with_reducible refine (impl_IsTime.calls a0_4 false _ A6.out).mono ?_); rintro e w' ⟨rfl, ⟨nd, rfl⟩⟩))
        go_ret
        exact ⟨by first | rfl | (simp [errW_none, errW_some] <;> rfl) | (simp [*, errW_none, errW_some] <;> rfl), by repeat (first | (with_reducible first | exact HB.out | apply bA_ | apply bN_ | apply bD_ | refine bS_ ?_ GE116.out) | exact HB.out)⟩
    · replace c5 := Bool.eq_false_iff.mpr c5
      subst c5
      have H1 : (some false) = some r := by rw [if_neg (show ¬ (false = true) by decide)] at H; exact H
      clear H
      have H := H1
      clear H1
      obtain rfl := Option.some.inj H
      go_enter Try.func97, Try.ntmps97
      go_wp2_with (first | ((with_reducible refine gate_dst (N := 1) rfl ?_); refine box_event ?hg (N := 1) ?hd (cs := #[.int .i64 a0_0, .int .i64 a0_1, .int .i64 a0_2, .int .i64 a0_3, .int .i64 a0_4, .int .i64 a0_5]) (t := 75) ?hr ?_; (case hd => rfl); (case hg => rfl); (case hr => first | (go_simp; done) | (go_simp; rfl)); intro gb116 hg w22 hbox hb; have n0_ := Aside0.mk (below_step z97_0 hb); have n1_ := Aside0.mk (hbox); have n2_ := Aside0.mk ((z97_3 : w.heap.size ≤ gb116)); have n3_ := Aside0.mk ((z97_3 : w.heap.size ≤ gb116)); clear HB; have HB := n0_; have BK116 := n1_; have GW116 := n2_; have GE116 := n3_; clear n0_ n1_ n2_ n3_; clear hb hbox hg; have hcz23_0 : w22.cell? ⟨gb116, 0, none⟩ = some (.int .i64 a0_0) := (bC_ BK116.out 0).trans rfl; have hcz23_1 : w22.cell? ⟨gb116, 1, none⟩ = some (.int .i64 a0_1) := (bC_ BK116.out 1).trans rfl; have hcz23_2 : w22.cell? ⟨gb116, 2, none⟩ = some (.int .i64 a0_2) := (bC_ BK116.out 2).trans rfl; have hcz23_3 : w22.cell? ⟨gb116, 3, none⟩ = some (.int .i64 a0_3) := (bC_ BK116.out 3).trans rfl; have hcz23_4 : w22.cell? ⟨gb116, 4, none⟩ = some (.int .i64 a0_4) := (bC_ BK116.out 4).trans rfl; have hcz23_5 : w22.cell? ⟨gb116, 5, none⟩ = some (.int .i64 a0_5) := (bC_ BK116.out 5).trans rfl; have hfz23_0 := bF_ BK116.out 0; have hfz23_1 := bF_ BK116.out 1; have hfz23_2 := bF_ BK116.out 2; have hfz23_3 := bF_ BK116.out 3; have hfz23_4 := bF_ BK116.out 4; have hfz23_5 := bF_ BK116.out 5) | ((with_reducible refine gate_callee (f := 112) rfl ?_); refine goesL_ (some 4) rfl rfl Try.func112 (by kernel_rfl) rfl #[.agg #[.int .i64 a0_0, .int .i64 a0_1, .int .i64 a0_2, .int .i64 a0_3, .int .i64 a0_4, .int .i64 a0_5]] rfl z97_2 ?_; (with_reducible refine (impl_isClaim.calls a0_0 a0_1 a0_2 a0_3 a0_4 a0_5 true _ A2.out).mono ?_); rintro e w24 ⟨rfl, hb⟩; refine ⟨_, rfl, ?_⟩; have n0_ := Aside0.mk (blk_below (g := gb116) (o := .cells #[.int .i64 a0_0, .int .i64 a0_1, .int .i64 a0_2, .int .i64 a0_3, .int .i64 a0_4, .int .i64 a0_5] 75 (0, 0)) (pB97_ BK116.out) hb); have n1_ := Aside0.mk (below_step z97_1 hb); clear BK116; clear HB; have BK116 := n0_; have HB := n1_; clear n0_ n1_; (try clear hb); (try clear hb2); (try clear hk); (try clear hi); have hcz25_0 : w24.cell? ⟨gb116, 0, none⟩ = some (.int .i64 a0_0) := (bC_ BK116.out 0).trans rfl; have hcz25_1 : w24.cell? ⟨gb116, 1, none⟩ = some (.int .i64 a0_1) := (bC_ BK116.out 1).trans rfl; have hcz25_2 : w24.cell? ⟨gb116, 2, none⟩ = some (.int .i64 a0_2) := (bC_ BK116.out 2).trans rfl; have hcz25_3 : w24.cell? ⟨gb116, 3, none⟩ = some (.int .i64 a0_3) := (bC_ BK116.out 3).trans rfl; have hcz25_4 : w24.cell? ⟨gb116, 4, none⟩ = some (.int .i64 a0_4) := (bC_ BK116.out 4).trans rfl; have hcz25_5 : w24.cell? ⟨gb116, 5, none⟩ = some (.int .i64 a0_5) := (bC_ BK116.out 5).trans rfl; have hfz25_0 := bF_ BK116.out 0; have hfz25_1 := bF_ BK116.out 1; have hfz25_2 := bF_ BK116.out 2; have hfz25_3 := bF_ BK116.out 3; have hfz25_4 := bF_ BK116.out 4; have hfz25_5 := bF_ BK116.out 5) | (go_at_call 87; (with_reducible refine (impl_InRange.calls a0_3 0 9 false _ A4.out).mono ?_); rintro e w' ⟨rfl, ⟨nd, rfl⟩⟩))
      go_ret
      exact ⟨by first | rfl | (simp [errW_none, errW_some] <;> rfl) | (simp [*, errW_none, errW_some] <;> rfl), by repeat (first | (with_reducible first | exact HB.out | apply bA_ | apply bN_ | apply bD_ | refine bS_ ?_ GE116.out) | exact HB.out)⟩
  · replace c3 := Bool.eq_false_iff.mpr c3
    subst c3
    have H1 : (some false) = some r := by rw [if_neg (show ¬ (false = true) by decide)] at H; exact H
    clear H
    have H := H1
    clear H1
    obtain rfl := Option.some.inj H
    go_enter Try.func97, Try.ntmps97
    go_wp2_with (first | ((with_reducible refine gate_dst (N := 1) rfl ?_); refine box_event ?hg (N := 1) ?hd (cs := #[.int .i64 a0_0, .int .i64 a0_1, .int .i64 a0_2, .int .i64 a0_3, .int .i64 a0_4, .int .i64 a0_5]) (t := 75) ?hr ?_; (case hd => rfl); (case hg => rfl); (case hr => first | (go_simp; done) | (go_simp; rfl)); intro gb116 hg w26 hbox hb; have n0_ := Aside0.mk (below_step z97_0 hb); have n1_ := Aside0.mk (hbox); have n2_ := Aside0.mk ((z97_3 : w.heap.size ≤ gb116)); have n3_ := Aside0.mk ((z97_3 : w.heap.size ≤ gb116)); clear HB; have HB := n0_; have BK116 := n1_; have GW116 := n2_; have GE116 := n3_; clear n0_ n1_ n2_ n3_; clear hb hbox hg; have hcz27_0 : w26.cell? ⟨gb116, 0, none⟩ = some (.int .i64 a0_0) := (bC_ BK116.out 0).trans rfl; have hcz27_1 : w26.cell? ⟨gb116, 1, none⟩ = some (.int .i64 a0_1) := (bC_ BK116.out 1).trans rfl; have hcz27_2 : w26.cell? ⟨gb116, 2, none⟩ = some (.int .i64 a0_2) := (bC_ BK116.out 2).trans rfl; have hcz27_3 : w26.cell? ⟨gb116, 3, none⟩ = some (.int .i64 a0_3) := (bC_ BK116.out 3).trans rfl; have hcz27_4 : w26.cell? ⟨gb116, 4, none⟩ = some (.int .i64 a0_4) := (bC_ BK116.out 4).trans rfl; have hcz27_5 : w26.cell? ⟨gb116, 5, none⟩ = some (.int .i64 a0_5) := (bC_ BK116.out 5).trans rfl; have hfz27_0 := bF_ BK116.out 0; have hfz27_1 := bF_ BK116.out 1; have hfz27_2 := bF_ BK116.out 2; have hfz27_3 := bF_ BK116.out 3; have hfz27_4 := bF_ BK116.out 4; have hfz27_5 := bF_ BK116.out 5) | ((with_reducible refine gate_callee (f := 112) rfl ?_); refine goesL_ (some 4) rfl rfl Try.func112 (by kernel_rfl) rfl #[.agg #[.int .i64 a0_0, .int .i64 a0_1, .int .i64 a0_2, .int .i64 a0_3, .int .i64 a0_4, .int .i64 a0_5]] rfl z97_2 ?_; (with_reducible refine (impl_isClaim.calls a0_0 a0_1 a0_2 a0_3 a0_4 a0_5 false _ A2.out).mono ?_); rintro e w28 ⟨rfl, hb⟩; refine ⟨_, rfl, ?_⟩; have n0_ := Aside0.mk (blk_below (g := gb116) (o := .cells #[.int .i64 a0_0, .int .i64 a0_1, .int .i64 a0_2, .int .i64 a0_3, .int .i64 a0_4, .int .i64 a0_5] 75 (0, 0)) (pB97_ BK116.out) hb); have n1_ := Aside0.mk (below_step z97_1 hb); clear BK116; clear HB; have BK116 := n0_; have HB := n1_; clear n0_ n1_; (try clear hb); (try clear hb2); (try clear hk); (try clear hi)))
    go_ret
    exact ⟨by first | rfl | (simp [errW_none, errW_some] <;> rfl) | (simp [*, errW_none, errW_some] <;> rfl), by repeat (first | (with_reducible first | exact HB.out | apply bA_ | apply bN_ | apply bD_ | refine bS_ ?_ GE116.out) | exact HB.out)⟩

/-! ### impl_IsWithin: function 98 -/
def impl_IsWithin.f (a0 : Int) (a1 : Int) (a2 : Int) : Option (Bool) := (impl_IsTime.f a0).bind fun t121 => (if t121 = true then ((impl_IsTime.f a1).bind fun t122 => (if t122 = true then ((impl_IsTime.f a2).bind fun t123 => (if t123 = true then ((impl_InRange.f a2 a0 a1).bind fun t124 => (some t124)) else (some false))) else (some false))) else (some false))
theorem z98_0 {Q : Prop} (g : Q := by (try simp only [List.map_toArray, List.map_cons, List.map_nil]); first | done | rfl | (simp only [List.length_drop, List.length_take]; rfl)) : Q := g
set_option maxHeartbeats 8000000 in
set_option maxRecDepth 100000 in
theorem impl_IsWithin.calls (a0 : Int) (a1 : Int) (a2 : Int) (r : Bool) (w : World) (h : impl_IsWithin.f a0 a1 a2 = some r) :
    Calls Try.prog 98 #[.int .i64 a0, .int .i64 a1, .int .i64 a2] w fun e w' => e = .returned (.bool r) ∧ Drawn0 w w' := by
  have H : ((impl_IsTime.f a0).bind fun t121 => (if t121 = true then ((impl_IsTime.f a1).bind fun t122 => (if t122 = true then ((impl_IsTime.f a2).bind fun t123 => (if t123 = true then ((impl_InRange.f a2 a0 a1).bind fun t124 => (some t124)) else (some false))) else (some false))) else (some false))) = some r := h
  clear h
  replace H := Option.bind_eq_some_iff.mp H
  obtain ⟨t121, A40, H⟩ := H
  replace H : (if t121 = true then ((impl_IsTime.f a1).bind fun t122 => (if t122 = true then ((impl_IsTime.f a2).bind fun t123 => (if t123 = true then ((impl_InRange.f a2 a0 a1).bind fun t124 => (some t124)) else (some false))) else (some false))) else (some false)) = some r := H
  have A4 := Aside0.mk A40
  clear A40
  by_cases c5 : t121 = true
  · subst c5
    have H1 : ((impl_IsTime.f a1).bind fun t122 => (if t122 = true then ((impl_IsTime.f a2).bind fun t123 => (if t123 = true then ((impl_InRange.f a2 a0 a1).bind fun t124 => (some t124)) else (some false))) else (some false))) = some r := by rw [if_pos rfl] at H; exact H
    clear H
    have H := H1
    clear H1
    replace H := Option.bind_eq_some_iff.mp H
    obtain ⟨t122, A60, H⟩ := H
    replace H : (if t122 = true then ((impl_IsTime.f a2).bind fun t123 => (if t123 = true then ((impl_InRange.f a2 a0 a1).bind fun t124 => (some t124)) else (some false))) else (some false)) = some r := H
    have A6 := Aside0.mk A60
    clear A60
    by_cases c7 : t122 = true
    · subst c7
      have H1 : ((impl_IsTime.f a2).bind fun t123 => (if t123 = true then ((impl_InRange.f a2 a0 a1).bind fun t124 => (some t124)) else (some false))) = some r := by rw [if_pos rfl] at H; exact H
      clear H
      have H := H1
      clear H1
      replace H := Option.bind_eq_some_iff.mp H
      obtain ⟨t123, A80, H⟩ := H
      replace H : (if t123 = true then ((impl_InRange.f a2 a0 a1).bind fun t124 => (some t124)) else (some false)) = some r := H
      have A8 := Aside0.mk A80
      clear A80
      by_cases c9 : t123 = true
      · subst c9
        have H1 : ((impl_InRange.f a2 a0 a1).bind fun t124 => (some t124)) = some r := by rw [if_pos rfl] at H; exact H
        clear H
        have H := H1
        clear H1
        replace H := Option.bind_eq_some_iff.mp H
        obtain ⟨t124, A100, H⟩ := H
        replace H : (some t124) = some r := H
        have A10 := Aside0.mk A100
        clear A100
        obtain rfl := Option.some.inj H
        go_enter Try.func98, Try.ntmps98
        go_wp2_with (first | ((with_reducible refine gate_callee (f := 78) rfl ?_); refine goesL_ (some 8) rfl rfl Try.func78 (by kernel_rfl) rfl #[.int .i64 a0] rfl z98_0 ?_; (with_reducible refine (impl_IsTime.calls a0 true _ A4.out).mono ?_); rintro e w' ⟨rfl, ⟨nd, rfl⟩⟩; refine ⟨_, rfl, ?_⟩) | (go_at_call 78; (with_reducible refine (impl_IsTime.calls a1 true _ A6.out).mono ?_); rintro e w' ⟨rfl, ⟨nd, rfl⟩⟩) | (go_at_call 78; (with_reducible refine (impl_IsTime.calls a2 true _ A8.out).mono ?_); rintro e w' ⟨rfl, ⟨nd, rfl⟩⟩) | (go_at_call 87; (with_reducible refine (impl_InRange.calls a2 a0 a1 t124 _ A10.out).mono ?_); rintro e w' ⟨rfl, ⟨nd, rfl⟩⟩))
        go_ret
        exact ⟨by first | rfl | (simp; done) | (simp [*]; done), by repeat (first | exact Drawn0.refl _ | apply Drawn0.step)⟩
      · replace c9 := Bool.eq_false_iff.mpr c9
        subst c9
        have H1 : (some false) = some r := by rw [if_neg (show ¬ (false = true) by decide)] at H; exact H
        clear H
        have H := H1
        clear H1
        obtain rfl := Option.some.inj H
        go_enter Try.func98, Try.ntmps98
        go_wp2_with (first | ((with_reducible refine gate_callee (f := 78) rfl ?_); refine goesL_ (some 8) rfl rfl Try.func78 (by kernel_rfl) rfl #[.int .i64 a0] rfl z98_0 ?_; (with_reducible refine (impl_IsTime.calls a0 true _ A4.out).mono ?_); rintro e w' ⟨rfl, ⟨nd, rfl⟩⟩; refine ⟨_, rfl, ?_⟩) | (go_at_call 78; (with_reducible refine (impl_IsTime.calls a1 true _ A6.out).mono ?_); rintro e w' ⟨rfl, ⟨nd, rfl⟩⟩) | (go_at_call 78; (with_reducible refine (impl_IsTime.calls a2 false _ A8.out).mono ?_); rintro e w' ⟨rfl, ⟨nd, rfl⟩⟩))
        go_ret
        exact ⟨by first | rfl | (simp; done) | (simp [*]; done), by repeat (first | exact Drawn0.refl _ | apply Drawn0.step)⟩
    · replace c7 := Bool.eq_false_iff.mpr c7
      subst c7
      have H1 : (some false) = some r := by rw [if_neg (show ¬ (false = true) by decide)] at H; exact H
      clear H
      have H := H1
      clear H1
      obtain rfl := Option.some.inj H
      go_enter Try.func98, Try.ntmps98
      go_wp2_with (first | ((with_reducible refine gate_callee (f := 78) rfl ?_); refine goesL_ (some 8) rfl rfl Try.func78 (by kernel_rfl) rfl #[.int .i64 a0] rfl z98_0 ?_; (with_reducible refine (impl_IsTime.calls a0 true _ A4.out).mono ?_); rintro e w' ⟨rfl, ⟨nd, rfl⟩⟩; refine ⟨_, rfl, ?_⟩) | (go_at_call 78; (with_reducible refine (impl_IsTime.calls a1 false _ A6.out).mono ?_); rintro e w' ⟨rfl, ⟨nd, rfl⟩⟩))
      go_ret
      exact ⟨by first | rfl | (simp; done) | (simp [*]; done), by repeat (first | exact Drawn0.refl _ | apply Drawn0.step)⟩
  · replace c5 := Bool.eq_false_iff.mpr c5
    subst c5
    have H1 : (some false) = some r := by rw [if_neg (show ¬ (false = true) by decide)] at H; exact H
    clear H
    have H := H1
    clear H1
    obtain rfl := Option.some.inj H
    go_enter Try.func98, Try.ntmps98
    go_wp2_with (first | ((with_reducible refine gate_callee (f := 78) rfl ?_); refine goesL_ (some 8) rfl rfl Try.func78 (by kernel_rfl) rfl #[.int .i64 a0] rfl z98_0 ?_; (with_reducible refine (impl_IsTime.calls a0 false _ A4.out).mono ?_); rintro e w' ⟨rfl, ⟨nd, rfl⟩⟩; refine ⟨_, rfl, ?_⟩))
    go_ret
    exact ⟨by first | rfl | (simp; done) | (simp [*]; done), by repeat (first | exact Drawn0.refl _ | apply Drawn0.step)⟩

end Go.Proofs.Ytgmgoabohppkeaa.XFnRoles
