/- Written by this session's own program (wip/xprint, which runs over the kit's print): what the functions that the law reaches come to, each proved; and the law's row. Conditions: none. -/
import Derived.Test.YtgmgoabohppkeaaXFnExactArePairsx0
import Derived.Test.YtgmgoabohppkeaaXFnExactArePairsx1
import Derived.Test.YtgmgoabohppkeaaXFnExactArePairsx3
namespace Go.Proofs.Ytgmgoabohppkeaa.XFnExactArePairs
open Go.RowKit Go.Proofs.YtgmgoabohppkeaaW.PrintWords Go.Proofs.YtgmgoabohppkeaaW.PrintLast Go.Proofs.YtgmgoabohppkeaaW.PrintMore
attribute [local go_sem] max2_int min2_int max_two min_two max_three min_three max_four min_four   -- for this text's walks alone
set_option linter.unusedVariables false
set_option linter.unusedSimpArgs false

/-! ### impl_InRange: function 87 -/
def impl_InRange.f (a0 : Int) (a1 : Int) (a2 : Int) : Option (Bool) := if a1 ≤ a0 then (some (decide (a0 ≤ a2))) else (some false)
set_option maxHeartbeats 8000000 in
set_option maxRecDepth 100000 in
theorem impl_InRange.calls (a0 : Int) (a1 : Int) (a2 : Int) (r : Bool) (w : World) (h : impl_InRange.f a0 a1 a2 = some r) :
    Calls Try.prog 87 #[.int .i64 a0, .int .i64 a1, .int .i64 a2] w fun e w' => e = .returned (.bool r) ∧ Drawn0 w w' := by
  have H : (if a1 ≤ a0 then (some (decide (a0 ≤ a2))) else (some false)) = some r := h
  clear h
  by_cases c4 : a1 ≤ a0
  · rw [if_pos c4] at H
    have c4b0 : decide (a1 ≤ a0) = true := decide_eq_true c4
    clear c4
    obtain rfl := Option.some.inj H
    go_enter Try.func87, Try.ntmps87
    go_wp2
    go_ret
    exact ⟨by first | rfl | (simp; done) | (simp [*]; done), by repeat (first | exact Drawn0.refl _ | apply Drawn0.step)⟩
  · rw [if_neg c4] at H
    have c4b0 : decide (a1 ≤ a0) = false := decide_eq_false c4
    clear c4
    obtain rfl := Option.some.inj H
    go_enter Try.func87, Try.ntmps87
    go_wp2
    go_ret
    exact ⟨by first | rfl | (simp; done) | (simp [*]; done), by repeat (first | exact Drawn0.refl _ | apply Drawn0.step)⟩

/-! ### impl_isRole: function 70 -/
def impl_isRole.f (a0 : Int) : Option (Bool) := (impl_InRange.f a0 0 5).bind fun t147 => (some t147)
set_option maxHeartbeats 8000000 in
set_option maxRecDepth 100000 in
theorem impl_isRole.calls (a0 : Int) (r : Bool) (w : World) (h : impl_isRole.f a0 = some r) :
    Calls Try.prog 70 #[.int .i64 a0] w fun e w' => e = .returned (.bool r) ∧ Drawn0 w w' := by
  have H : ((impl_InRange.f a0 0 5).bind fun t147 => (some t147)) = some r := h
  clear h
  replace H := Option.bind_eq_some_iff.mp H
  obtain ⟨t147, A20, H⟩ := H
  replace H : (some t147) = some r := H
  have A2 := Aside0.mk A20
  clear A20
  obtain rfl := Option.some.inj H
  go_enter Try.func70, Try.ntmps70
  go_wp2_with (first | ((with_reducible refine gate_callee (f := 87) rfl ?_); refine goesL_ (some 4) rfl rfl Try.func87 (by kernel_rfl) rfl #[.int .i64 a0, .int .i64 0, .int .i64 5] rfl (by (try simp only [List.map_toArray, List.map_cons, List.map_nil]); first | done | rfl | (simp only [List.length_drop, List.length_take]; rfl)) ?_; (with_reducible refine (impl_InRange.calls a0 0 5 t147 _ A2.out).mono ?_); rintro e w' ⟨rfl, ⟨nd, rfl⟩⟩; refine ⟨_, rfl, ?_⟩))
  go_ret
  exact ⟨by first | rfl | (simp; done) | (simp [*]; done), by repeat (first | exact Drawn0.refl _ | apply Drawn0.step)⟩

/-! ### impl_below: function 71 -/
def impl_below.st (at' : Int) (s : List Bool × List Int) (x : S78) : List Bool × List Int := if x.f0 = at' ∧ (0 ≤ x.f1 ∧ x.f1 ≤ 5) ∧ s.1.getD x.f1.toNat false = false then (s.1.set x.f1.toNat true, s.2 ++ [x.f1]) else s
def impl_below.go (l : List S78) : Nat → List Bool → List Int → Option (List Bool)
  | 0, _, _ => none
  | k + 1, bs, [] => some bs
  | k + 1, bs, a :: t => if t.length + l.length < 1000000000 then impl_below.go l k (l.foldl (impl_below.st a) (bs, t)).1 (l.foldl (impl_below.st a) (bs, t)).2 else none
def impl_below.f (k : Nat) (l : List S78) (a : Int) : Option (List Bool) := impl_below.go l k (List.replicate 6 false) [a]
def arrV (bs : List Bool) : Array Value := (bs.map Value.bool).toArray
set_option maxHeartbeats 8000000 in
set_option maxRecDepth 100000 in
theorem impl_below.calls (k : Nat) (A0 : Option Addr) (c0 : Nat) (l0 : List (S78)) (a1 : Int) (r : List Bool) (w : World) (hr0 : Kd.C k78 w A0 l0.length l0) (hc0 : l0.length ≤ c0) (h : impl_below.f k l0 a1 = some r) :
    Calls Try.prog 71 #[.slice A0 l0.length c0, .int .i64 a1] w fun e w' => e = .returned (.agg (arrV r)) ∧ Below w.heap.size w w' := by
  have HH := Aside0.mk h
  clear h
  have HR0 := Aside0.mk hr0
  clear hr0 hc0
  have HB := Aside0.mk (Below.refl w.heap.size w)
  go_enter Try.func71, Try.ntmps71
  go_wp2_with (first
    | ((with_reducible refine gate_dst (N := 4) rfl ?_); refine box_event ?hg (N := 4) ?hd (cs := #[.bool false, .bool false, .bool false, .bool false, .bool false, .bool false]) (t := 89) ?hr ?_; (case hd => rfl); (case hg => rfl); (case hr => first | (go_simp; done) | (go_simp; rfl)); intro gr hgr w1 hbr hb1; have BR := Aside0.mk hbr; have HB1 := Aside0.mk (below_step HB.out hb1); have GR := Aside0.mk ((by rw [hgr]; exact Nat.le_refl _ : w.heap.size ≤ gr)); clear HB hb1 hbr hgr)
    | ((with_reducible refine gate_dst (N := 5) rfl ?_); refine box_event ?hg (N := 5) ?hd (cs := #[.bool false, .bool false, .bool false, .bool false, .bool false, .bool false]) (t := 89) ?hr ?_; (case hd => rfl); (case hg => rfl); (case hr => first | (go_simp; done) | (go_simp; rfl)); intro go hgo w2 hbo hb2; have BO := Aside0.mk hbo; have HB2 := Aside0.mk (below_step HB1.out hb2); have NE := Aside0.mk (show go ≠ gr from by have := (Array.getElem?_eq_some_iff.1 BR.out).1; omega); have BR2 := Aside0.mk ((hb2.block gr (Array.getElem?_eq_some_iff.1 BR.out).1).trans BR.out); have GO := Aside0.mk ((by rw [hgo]; exact below_size HB1.out : w.heap.size ≤ go)); clear HB1 BR hb2 hbo hgo; have hcz0 : w2.cell? ⟨go, 0, none⟩ = some (.bool false) := (blk_cell BO.out 0).trans rfl; have hcz1 : w2.cell? ⟨go, 1, none⟩ = some (.bool false) := (blk_cell BO.out 1).trans rfl; have hcz2 : w2.cell? ⟨go, 2, none⟩ = some (.bool false) := (blk_cell BO.out 2).trans rfl; have hcz3 : w2.cell? ⟨go, 3, none⟩ = some (.bool false) := (blk_cell BO.out 3).trans rfl; have hcz4 : w2.cell? ⟨go, 4, none⟩ = some (.bool false) := (blk_cell BO.out 4).trans rfl; have hcz5 : w2.cell? ⟨go, 5, none⟩ = some (.bool false) := (blk_cell BO.out 5).trans rfl; have hfz0 := blk_frozen BO.out 0; have hfz1 := blk_frozen BO.out 1; have hfz2 := blk_frozen BO.out 2; have hfz3 := blk_frozen BO.out 3; have hfz4 := blk_frozen BO.out 4; have hfz5 := blk_frozen BO.out 5))
  have hz : ∀ (bs : List Bool) (i : Nat), bs.length = 6 → (arrV bs).size = 6 := fun bs i h => by simp [arrV, h]
  go_loopg [6] k (fun kq v6 w' => ∃ (bs : List Bool) (todo : List Int), bs.length = 6 ∧ Aside0 (impl_below.go l0 kq bs todo = some r) ∧ Aside0 (kq ≤ k) ∧ Aside0 (Kd.Q (Kd.int .i64) 3 w' w.heap.size (fun _ => True) v6 todo) ∧ Aside0 (w'.heap[go]? = some (.cells (arrV bs) 89 (0, 0))) ∧ Aside0 (w'.heap[gr]? = some (.cells (arrV (List.replicate 6 false)) 89 (0, 0))) ∧ Aside0 (Below w.heap.size w w'))
  case atStart =>
    have HB3 : Below w.heap.size w ((((((w2.setCell ⟨go, 0, none⟩ (.bool false)).setCell ⟨go, 1, none⟩ (.bool false)).setCell ⟨go, 2, none⟩ (.bool false)).setCell ⟨go, 3, none⟩ (.bool false)).setCell ⟨go, 4, none⟩ (.bool false)).setCell ⟨go, 5, none⟩ (.bool false)) := below_set (below_set (below_set (below_set (below_set (below_set HB2.out GO.out) GO.out) GO.out) GO.out) GO.out) GO.out
    have BO3 := blk_put (blk_put (blk_put (blk_put (blk_put (blk_put BO.out 0 (.bool false) rfl) 1 (.bool false) rfl) 2 (.bool false) rfl) 3 (.bool false) rfl) 4 (.bool false) rfl) 5 (.bool false) rfl
    have hrn : ∀ (W : World) (i : Nat) (u : Value), (W.setCell ⟨go, i, none⟩ u).heap[gr]? = W.heap[gr]? := fun W i u => Below.heap_setCell _ _ _ gr (Ne.symm NE.out)
    refine ⟨List.replicate 6 false, [a1], rfl, HH, ⟨Nat.le_refl _⟩, ⟨?_⟩, ⟨?_⟩, ⟨?_⟩, ⟨below_alloc HB3 _⟩⟩
    · refine Kd.Q_of_R (Kd.R_of_own ?_ (fun _ _ => trivial))
      have h := World.ownsRow_lit (base := w.heap.size) (e := 3) (size := 1) ((((((w2.setCell ⟨go, 0, none⟩ (.bool false)).setCell ⟨go, 1, none⟩ (.bool false)).setCell ⟨go, 2, none⟩ (.bool false)).setCell ⟨go, 3, none⟩ (.bool false)).setCell ⟨go, 4, none⟩ (.bool false)).setCell ⟨go, 5, none⟩ (.bool false)) #[.int .i64 a1] 1 (below_size HB3) (by decide) rfl
      rw [(by simp [World.setCell] : ((((((w2.setCell ⟨go, 0, none⟩ (.bool false)).setCell ⟨go, 1, none⟩ (.bool false)).setCell ⟨go, 2, none⟩ (.bool false)).setCell ⟨go, 3, none⟩ (.bool false)).setCell ⟨go, 4, none⟩ (.bool false)).setCell ⟨go, 5, none⟩ (.bool false)).heap.size = w2.heap.size)] at h
      exact h
    · exact blk_alloc BO3 _
    · refine blk_alloc ?_ _
      rw [hrn, hrn, hrn, hrn, hrn, hrn]
      exact BR2.out
  case round =>
    obtain ⟨bs, todo, hbl, HG, HK, HQ, BO, BR, HB⟩ := hrel
    cases gk with
    | zero => exact absurd HG.out (by simp [impl_below.go])
    | succ k1 =>
      cases todo with
      | nil =>
        have hg := HG.out
        simp only [impl_below.go] at hg
        obtain rfl := Option.some.inj hg
        obtain ⟨A6, c6, rfl, hc6, hC6⟩ := Kd.Q_reads HQ.out
        have hlen : decide ((([] : List Int).length : Int) > 0) = false := rfl
        obtain ⟨b0, b1, b2, b3, b4, b5, rfl⟩ : ∃ b0 b1 b2 b3 b4 b5, bs = [b0, b1, b2, b3, b4, b5] := by
          match bs, hbl with
          | [b0, b1, b2, b3, b4, b5], _ => exact ⟨b0, b1, b2, b3, b4, b5, rfl⟩
        have hcz0 : wr.cell? ⟨go, 0, none⟩ = some (.bool b0) := (blk_cell BO.out 0).trans rfl
        have hcz1 : wr.cell? ⟨go, 1, none⟩ = some (.bool b1) := (blk_cell BO.out 1).trans rfl
        have hcz2 : wr.cell? ⟨go, 2, none⟩ = some (.bool b2) := (blk_cell BO.out 2).trans rfl
        have hcz3 : wr.cell? ⟨go, 3, none⟩ = some (.bool b3) := (blk_cell BO.out 3).trans rfl
        have hcz4 : wr.cell? ⟨go, 4, none⟩ = some (.bool b4) := (blk_cell BO.out 4).trans rfl
        have hcz5 : wr.cell? ⟨go, 5, none⟩ = some (.bool b5) := (blk_cell BO.out 5).trans rfl
        have hry0 : wr.cell? ⟨gr, 0, none⟩ = some (.bool false) := (blk_cell BR.out 0).trans rfl
        have hry1 : wr.cell? ⟨gr, 1, none⟩ = some (.bool false) := (blk_cell BR.out 1).trans rfl
        have hry2 : wr.cell? ⟨gr, 2, none⟩ = some (.bool false) := (blk_cell BR.out 2).trans rfl
        have hry3 : wr.cell? ⟨gr, 3, none⟩ = some (.bool false) := (blk_cell BR.out 3).trans rfl
        have hry4 : wr.cell? ⟨gr, 4, none⟩ = some (.bool false) := (blk_cell BR.out 4).trans rfl
        have hry5 : wr.cell? ⟨gr, 5, none⟩ = some (.bool false) := (blk_cell BR.out 5).trans rfl
        have hfy0 := blk_frozen BR.out 0
        have hfy1 := blk_frozen BR.out 1
        have hfy2 := blk_frozen BR.out 2
        have hfy3 := blk_frozen BR.out 3
        have hfy4 := blk_frozen BR.out 4
        have hfy5 := blk_frozen BR.out 5
        go_wp2
        refine bodyPost_ret (results_cell_row rfl _ _ gr 89 #[.bool b0, .bool b1, .bool b2, .bool b3, .bool b4, .bool b5] (0, 0) _ rfl (blk_put (cs := #[.bool b0, .bool b1, .bool b2, .bool b3, .bool b4, .bool false]) (blk_put (cs := #[.bool b0, .bool b1, .bool b2, .bool b3, .bool false, .bool false]) (blk_put (cs := #[.bool b0, .bool b1, .bool b2, .bool false, .bool false, .bool false]) (blk_put (cs := #[.bool b0, .bool b1, .bool false, .bool false, .bool false, .bool false]) (blk_put (cs := #[.bool b0, .bool false, .bool false, .bool false, .bool false, .bool false]) (blk_put (cs := #[.bool false, .bool false, .bool false, .bool false, .bool false, .bool false]) BR.out 0 _ rfl) 1 _ rfl) 2 _ rfl) 3 _ rfl) 4 _ rfl) 5 _ rfl) Try.underlying89 rfl (by kernel_rfl)) rfl ?_
        exact ⟨rfl, below_set (below_set (below_set (below_set (below_set (below_set HB.out GR.out) GR.out) GR.out) GR.out) GR.out) GR.out⟩
      | cons a t =>
        have hg := HG.out
        simp only [impl_below.go] at hg
        have htl : t.length + l0.length < 1000000000 := by
          by_cases q : t.length + l0.length < 1000000000
          · exact q
          · rw [if_neg q] at hg
            cases hg
        rw [if_pos htl] at hg
        have HTL := Aside0.mk htl
        have HG1 := Aside0.mk hg
        clear HG hg htl
        obtain ⟨A6, c6, rfl, hc6, hC6⟩ := Kd.Q_reads HQ.out
        have hgt : decide (((a :: t).length : Int) > 0) = true := decide_eq_true (by simp)
        have hgt' : (0 : Int) < ((a :: t).length : Int) := by simp
        obtain ⟨ad, ead, hx⟩ := Kd.at_int hC6 0 (by omega) hgt'
        subst ead
        replace hx : wr.cell? (ad.add 0) = some (.int .i64 a) := hx
        rw [show ad.add 0 = ad by simp [Addr.add]] at hx
        obtain ⟨i0, hi0, _, hsz0, _⟩ := info_parts info3
        have hcut := cut_from (P := Try.prog) 26 3 .i64 Try.underlying26 hi0 1 hsz0 (some ad) (a :: t).length c6 1 (by omega) (by simp; omega)
        have HQ1 := Kd.Q_drop (k := 1) HQ.out (by simp)
        clear HQ
        obtain ⟨V, hV⟩ : ∃ V : Value, V = .slice (if c6 = 1 then some ad else (some ad).map (·.add (1 * 1))) ((a :: t).length - 1) (c6 - 1) := ⟨_, rfl⟩
        replace hcut : ∀ W : World, (Instr.slice 26 (.slice (some ad) (a :: t).length c6) (some (.int .i64 1)) none none).run Try.prog W = .ok V W := by rw [hV]; exact hcut
        replace HQ1 : Aside0 (Kd.Q (Kd.int .i64) 3 wr w.heap.size (fun _ => True) V t) := ⟨by rw [hV]; exact HQ1⟩
        have hlt1 : (0 < (a :: t).length) = True := eq_true (by simp)
        have HN := Aside0.mk hC6
        clear hV hi0 hsz0 hC6
        generalize hL : (a :: t).length = L at hcut hgt hgt' hlt1 hc6
        go_wp2
        clear hx hcut hgt hgt' hlt1 hc6 HN
        go_loopg [6, 23] l0.length (fun gg v6 v23 w' => ∃ (a' b : List S78) (bs : List Bool) (todo : List Int), bs.length = 6 ∧ Aside0 (l0 = a' ++ b) ∧ b.length ≤ gg ∧ v23 = .int .i64 (a'.length : Int) ∧ Aside0 (impl_below.go l0 k1 (b.foldl (impl_below.st a) (bs, todo)).1 (b.foldl (impl_below.st a) (bs, todo)).2 = some r) ∧ Aside0 (Kd.Q (Kd.int .i64) 3 w' w.heap.size (fun _ => True) v6 todo) ∧ Aside0 (w'.heap[go]? = some (.cells (arrV bs) 89 (0, 0))) ∧ Aside0 (w'.heap[gr]? = some (.cells (arrV (List.replicate 6 false)) 89 (0, 0))) ∧ Aside0 (Below w.heap.size w w') ∧ Aside0 (todo.length + b.length < 1000000000))
        case atStart => exact ⟨[], l0, bs, t, hbl, ⟨rfl⟩, Nat.le_refl _, rfl, HG1, HQ1, BO, BR, HB, HTL⟩
        case round =>
          clear HQ1 BO BR HB HG1
          obtain ⟨a', b, bs, todo, hbl, hl, hgg, rfl, HG2, HQ, BO, BR, HB, HT⟩ := hrel
          cases b with
          | nil =>
            have hd : decide ((a'.length : Int) < (l0.length : Int)) = false := decide_eq_false (by rw [hl.out]; simp)
            have hd2 : ((a'.length : Int) < (l0.length : Int)) = False := eq_false (by rw [hl.out]; simp)
            have hd3 : (a'.length < l0.length) = False := eq_false (by rw [hl.out]; simp)
            go_wp2
            go_roundg k1
            case measure => omega
            case rel => exact ⟨bs, todo, hbl, HG2, ⟨by have := HK.out; omega⟩, HQ, BO, BR, HB⟩
          | cons x b =>
            have hlt : (a'.length : Int) < (l0.length : Int) := by rw [hl.out]; simp; omega
            have hd : decide ((a'.length : Int) < (l0.length : Int)) = true := decide_eq_true hlt
            have hxx : rd_T78 l0 (a'.length : Int) = x := by
              unfold rd_T78
              rw [Int.toNat_natCast, hl.out, List.getD_eq_getElem?_getD, List.getElem?_append_right (Nat.le_refl _), Nat.sub_self]
              rfl
            obtain ⟨ad2, e2, hx0, hx1⟩ := at_T78 HR0.out (a'.length : Int) (by omega) hlt
            cases e2
            rw [hxx] at hx0 hx1
            replace hx0 := (HB.out.cell (World.block_lt_of_cell? w _ hx0)).trans hx0
            replace hx1 := (HB.out.cell (World.block_lt_of_cell? w _ hx1)).trans hx1
            have hlt' := eq_true hlt
            simp only [Int.toNat_natCast] at hx0 hx1
            cases gk with
            | zero => exact absurd hgg (by simp)
            | succ g1 =>
            by_cases c0 : x.f0 = a
            · have c0' : (x.f0 == a) = true := beq_iff_eq.2 c0
              have hrole : impl_isRole.f x.f1 = some (decide (0 ≤ x.f1 ∧ x.f1 ≤ 5)) := by
                unfold impl_isRole.f impl_InRange.f
                by_cases h : 0 ≤ x.f1
                · rw [if_pos h]; simp [h]
                · rw [if_neg h]; simp [h]
              by_cases c1 : 0 ≤ x.f1 ∧ x.f1 ≤ 5
              · rw [decide_eq_true c1] at hrole
                have hb0 : (0 ≤ x.f1) = True := eq_true c1.1
                have hb6 : (x.f1 < 6) = True := eq_true (by omega)
                have hj : x.f1.toNat < bs.length := by omega
                have harr : (arrV bs)[x.f1.toNat]? = some (.bool (bs.getD x.f1.toNat false)) := by simp [arrV, List.getD_eq_getElem?_getD, List.getElem?_eq_getElem hj]
                cases hbit : bs.getD x.f1.toNat false with
                | true =>
                  rw [hbit] at harr
                  go_wp2_with (first | ((with_reducible refine gate_dst (N := 9) rfl ?_); refine box_event ?hg (N := 9) ?hd (cs := #[.int .i64 0, .int .i64 0]) (t := 78) ?hr ?_; (case hd => rfl); (case hg => rfl); (case hr => first | (go_simp; done) | (go_simp; rfl)); intro gx hgx w4 hbx hb4; have BX := Aside0.mk hbx; have HQ4 := Aside0.mk (Kd.Q_below HQ.out hb4); have BO4 := Aside0.mk ((hb4.block go (Array.getElem?_eq_some_iff.1 BO.out).1).trans BO.out); have BR4 := Aside0.mk ((hb4.block gr (Array.getElem?_eq_some_iff.1 BR.out).1).trans BR.out); have HB4 := Aside0.mk (below_step HB.out hb4); have GX := Aside0.mk ((by rw [hgx]; exact below_size HB.out : w.heap.size ≤ gx)); have hne1 : gx ≠ go := (by have := (Array.getElem?_eq_some_iff.1 BO.out).1; omega); have hne2 : gx ≠ gr := (by have := (Array.getElem?_eq_some_iff.1 BR.out).1; omega); clear HQ BO BR HB hbx hb4 hgx; have hcx0 : w4.cell? ⟨gx, 0, none⟩ = some (.int .i64 0) := (blk_cell BX.out 0).trans rfl; have hcx1 : w4.cell? ⟨gx, 1, none⟩ = some (.int .i64 0) := (blk_cell BX.out 1).trans rfl; have hfx0 := blk_frozen BX.out 0; have hfx1 := blk_frozen BX.out 1; have hld : w4.cell? ⟨go, x.f1.toNat, none⟩ = some (.bool true) := (blk_cell BO4.out x.f1.toNat).trans harr; have hlf := blk_frozen BO4.out x.f1.toNat) | (go_at_call 70; refine (impl_isRole.calls x.f1 true _ hrole).mono ?_; rintro e w' ⟨rfl, ⟨nd, rfl⟩⟩))
                  go_roundg g1
                  case measure => omega
                  case rel =>
                    have hst : impl_below.st a (bs, todo) x = (bs, todo) := by unfold impl_below.st; rw [if_neg (fun h => by rw [hbit] at h; cases h.2.2)]
                    have hgn := HG2.out
                    rw [List.foldl_cons, hst] at hgn
                    have hlen := Kd.C_max HR0.out
                    refine ⟨a' ++ [x], b, bs, todo, hbl, ⟨by rw [hl.out]; simp⟩, by simp at hgg; omega, ?_, ⟨hgn⟩, ⟨Kd.Q_drewN (Kd.Q_set (Kd.Q_set HQ4.out BX.out (by decide) 0 _) (blk_put BX.out 0 _ rfl) (by decide) 1 _) _⟩, ⟨(Below.heap_setCell _ _ _ go (Ne.symm hne1)).trans ((Below.heap_setCell _ _ _ go (Ne.symm hne1)).trans BO4.out)⟩, ⟨(Below.heap_setCell _ _ _ gr (Ne.symm hne2)).trans ((Below.heap_setCell _ _ _ gr (Ne.symm hne2)).trans BR4.out)⟩, ⟨pw_below_drewN (below_set (below_set HB4.out GX.out) GX.out) _⟩, ⟨by have := HT.out; simp at this; omega⟩⟩
                    rw [List.length_append]
                    unfold wrap64
                    simp
                    omega
                | false =>
                  rw [hbit] at harr
                  have hset : arrV (bs.set x.f1.toNat true) = (arrV bs).setIfInBounds x.f1.toNat (.bool true) := by simp [arrV, List.map_set]
                  have hne0 := NE.out
                  go_wp2_with (first | ((with_reducible refine gate_dst (N := 9) rfl ?_); refine box_event ?hg (N := 9) ?hd (cs := #[.int .i64 0, .int .i64 0]) (t := 78) ?hr ?_; (case hd => rfl); (case hg => rfl); (case hr => first | (go_simp; done) | (go_simp; rfl)); intro gx hgx w4 hbx hb4; have BX := Aside0.mk hbx; have HQ4 := Aside0.mk (Kd.Q_below HQ.out hb4); have BO4 := Aside0.mk ((hb4.block go (Array.getElem?_eq_some_iff.1 BO.out).1).trans BO.out); have BR4 := Aside0.mk ((hb4.block gr (Array.getElem?_eq_some_iff.1 BR.out).1).trans BR.out); have HB4 := Aside0.mk (below_step HB.out hb4); have GX := Aside0.mk ((by rw [hgx]; exact below_size HB.out : w.heap.size ≤ gx)); have hne1 : gx ≠ go := (by have := (Array.getElem?_eq_some_iff.1 BO.out).1; omega); have hne2 : gx ≠ gr := (by have := (Array.getElem?_eq_some_iff.1 BR.out).1; omega); clear HQ BO BR HB hbx hb4 hgx; have hcx0 : w4.cell? ⟨gx, 0, none⟩ = some (.int .i64 0) := (blk_cell BX.out 0).trans rfl; have hcx1 : w4.cell? ⟨gx, 1, none⟩ = some (.int .i64 0) := (blk_cell BX.out 1).trans rfl; have hfx0 := blk_frozen BX.out 0; have hfx1 := blk_frozen BX.out 1; have hld : w4.cell? ⟨go, x.f1.toNat, none⟩ = some (.bool false) := (blk_cell BO4.out x.f1.toNat).trans harr; have hlf := blk_frozen BO4.out x.f1.toNat) | (go_at_call 70; refine (impl_isRole.calls x.f1 true _ hrole).mono ?_; rintro e w' ⟨rfl, ⟨nd, rfl⟩⟩) | ((with_reducible refine gate_builtin (b := .append) (xs := #[.tmp 46, .tmp 49]) rfl ?_); at_builtin; go_loud (refine Kd.Q_append (Kd.int .i64) (w0 := w) w.heap.size rfl (.tmp 46) (.tmp 49) 26 3 (.int .i64 0) 8 rfl Try.underlying26 info3 rfl (by decide) (by omega) u6 todo x.f1 [.int .i64 x.f1] (fun _ => True) (fun _ => False) rfl ?aX ?aP (fun _ hk => hk.elim) ?aF ?aO ?aB ?aS ?aL ?_); (case aX => go_loud (exact (congrArg (fun b => Value.slice (some ⟨b, 0, none⟩) 1 1) (by simp [World.drewN, World.setCell] : w4.heap.size = (((((w4.setCell ⟨gx, 0, none⟩ (.int .i64 a)).setCell ⟨gx, 1, none⟩ (.int .i64 x.f1)).drewN nd).setCell ⟨go, x.f1.toNat, none⟩ (.bool true))).heap.size)))); (case aP => go_loud (exact rfl)); (case aF => go_loud (exact (fun _ _ => trivial))); (case aO => go_loud (exact Kd.Q_set (Kd.Q_drewN (Kd.Q_set (Kd.Q_set HQ4.out BX.out (by decide) 0 _) (blk_put BX.out 0 _ rfl) (by decide) 1 _) _) ((Below.heap_setCell _ _ _ go (Ne.symm hne1)).trans ((Below.heap_setCell _ _ _ go (Ne.symm hne1)).trans BO4.out)) (by decide) _ _)); (case aB => go_loud (exact below_set (pw_below_drewN (below_set (below_set HB4.out GX.out) GX.out) _) GO.out)); (case aS => go_loud (exact below_size (below_set (pw_below_drewN (below_set (below_set HB4.out GX.out) GX.out) _) GO.out))); (case aL => go_loud (have := HT.out; omega)); intro v50 w11 ho hb hg hat; have HQ11 := Aside0.mk ho; have HB11 := Aside0.mk hb; have BO11 : Aside0 (w11.heap[go]? = some (.cells (arrV (bs.set x.f1.toNat true)) 89 (0, 0))) := ⟨by go_loud (refine blk_grown (blk_put (blk_drewN ((Below.heap_setCell _ _ _ go (Ne.symm hne1)).trans ((Below.heap_setCell _ _ _ go (Ne.symm hne1)).trans BO4.out)) _) x.f1.toNat (.bool true) ?b1) hg ?b2; (case b1 => go_loud (exact hset.symm)); (case b2 => go_loud (exact (Kd.Q_ne HQ4.out BO4.out (by decide)))))⟩; have BR11 : Aside0 (w11.heap[gr]? = some (.cells (arrV (List.replicate 6 false)) 89 (0, 0))) := ⟨by go_loud (exact blk_grown ((Below.heap_setCell _ _ _ gr (Ne.symm hne0)).trans (blk_drewN ((Below.heap_setCell _ _ _ gr (Ne.symm hne2)).trans ((Below.heap_setCell _ _ _ gr (Ne.symm hne2)).trans BR4.out)) _)) hg (Kd.Q_ne HQ4.out BR4.out (by decide)))⟩; clear ho hb hg hat))
                  go_roundg g1
                  case measure => omega
                  case rel =>
                    have hst : impl_below.st a (bs, todo) x = (bs.set x.f1.toNat true, todo ++ [x.f1]) := by unfold impl_below.st; rw [if_pos ⟨c0, c1, hbit⟩]
                    have hgn := HG2.out
                    rw [List.foldl_cons, hst] at hgn
                    have hlen := Kd.C_max HR0.out
                    refine ⟨a' ++ [x], b, bs.set x.f1.toNat true, todo ++ [x.f1], by rw [List.length_set]; exact hbl, ⟨by rw [hl.out]; simp⟩, by simp at hgg; omega, ?_, ⟨hgn⟩, HQ11, BO11, BR11, HB11, ⟨by have := HT.out; simp at this ⊢; omega⟩⟩
                    rw [List.length_append]
                    unfold wrap64
                    simp
                    omega
              · rw [decide_eq_false c1] at hrole
                go_wp2_with (first | ((with_reducible refine gate_dst (N := 9) rfl ?_); refine box_event ?hg (N := 9) ?hd (cs := #[.int .i64 0, .int .i64 0]) (t := 78) ?hr ?_; (case hd => rfl); (case hg => rfl); (case hr => first | (go_simp; done) | (go_simp; rfl)); intro gx hgx w4 hbx hb4; have BX := Aside0.mk hbx; have HQ4 := Aside0.mk (Kd.Q_below HQ.out hb4); have BO4 := Aside0.mk ((hb4.block go (Array.getElem?_eq_some_iff.1 BO.out).1).trans BO.out); have BR4 := Aside0.mk ((hb4.block gr (Array.getElem?_eq_some_iff.1 BR.out).1).trans BR.out); have HB4 := Aside0.mk (below_step HB.out hb4); have GX := Aside0.mk ((by rw [hgx]; exact below_size HB.out : w.heap.size ≤ gx)); have hne1 : gx ≠ go := (by have := (Array.getElem?_eq_some_iff.1 BO.out).1; omega); have hne2 : gx ≠ gr := (by have := (Array.getElem?_eq_some_iff.1 BR.out).1; omega); clear HQ BO BR HB hbx hb4 hgx; have hcx0 : w4.cell? ⟨gx, 0, none⟩ = some (.int .i64 0) := (blk_cell BX.out 0).trans rfl; have hcx1 : w4.cell? ⟨gx, 1, none⟩ = some (.int .i64 0) := (blk_cell BX.out 1).trans rfl; have hfx0 := blk_frozen BX.out 0; have hfx1 := blk_frozen BX.out 1) | (go_at_call 70; refine (impl_isRole.calls x.f1 false _ hrole).mono ?_; rintro e w' ⟨rfl, ⟨nd, rfl⟩⟩))
                go_roundg g1
                case measure => omega
                case rel =>
                  have hst : impl_below.st a (bs, todo) x = (bs, todo) := by unfold impl_below.st; rw [if_neg (fun h => c1 h.2.1)]
                  have hgn := HG2.out
                  rw [List.foldl_cons, hst] at hgn
                  have hlen := Kd.C_max HR0.out
                  refine ⟨a' ++ [x], b, bs, todo, hbl, ⟨by rw [hl.out]; simp⟩, by simp at hgg; omega, ?_, ⟨hgn⟩, ⟨Kd.Q_drewN (Kd.Q_set (Kd.Q_set HQ4.out BX.out (by decide) 0 _) (blk_put BX.out 0 _ rfl) (by decide) 1 _) _⟩, ⟨(Below.heap_setCell _ _ _ go (Ne.symm hne1)).trans ((Below.heap_setCell _ _ _ go (Ne.symm hne1)).trans BO4.out)⟩, ⟨(Below.heap_setCell _ _ _ gr (Ne.symm hne2)).trans ((Below.heap_setCell _ _ _ gr (Ne.symm hne2)).trans BR4.out)⟩, ⟨pw_below_drewN (below_set (below_set HB4.out GX.out) GX.out) _⟩, ⟨by have := HT.out; simp at this; omega⟩⟩
                  rw [List.length_append]
                  unfold wrap64
                  simp
                  omega
            · have c0' : (x.f0 == a) = false := beq_eq_false_iff_ne.2 c0
              go_wp2_with (first | ((with_reducible refine gate_dst (N := 9) rfl ?_); refine box_event ?hg (N := 9) ?hd (cs := #[.int .i64 0, .int .i64 0]) (t := 78) ?hr ?_; (case hd => rfl); (case hg => rfl); (case hr => first | (go_simp; done) | (go_simp; rfl)); intro gx hgx w4 hbx hb4; have BX := Aside0.mk hbx; have HQ4 := Aside0.mk (Kd.Q_below HQ.out hb4); have BO4 := Aside0.mk ((hb4.block go (Array.getElem?_eq_some_iff.1 BO.out).1).trans BO.out); have BR4 := Aside0.mk ((hb4.block gr (Array.getElem?_eq_some_iff.1 BR.out).1).trans BR.out); have HB4 := Aside0.mk (below_step HB.out hb4); have GX := Aside0.mk ((by rw [hgx]; exact below_size HB.out : w.heap.size ≤ gx)); have hne1 : gx ≠ go := (by have := (Array.getElem?_eq_some_iff.1 BO.out).1; omega); have hne2 : gx ≠ gr := (by have := (Array.getElem?_eq_some_iff.1 BR.out).1; omega); clear HQ BO BR HB hbx hb4 hgx; have hcx0 : w4.cell? ⟨gx, 0, none⟩ = some (.int .i64 0) := (blk_cell BX.out 0).trans rfl; have hcx1 : w4.cell? ⟨gx, 1, none⟩ = some (.int .i64 0) := (blk_cell BX.out 1).trans rfl; have hfx0 := blk_frozen BX.out 0; have hfx1 := blk_frozen BX.out 1))
              go_roundg g1
              case measure => omega
              case rel =>
                have hst : impl_below.st a (bs, todo) x = (bs, todo) := by unfold impl_below.st; rw [if_neg (fun h => c0 h.1)]
                have hgn := HG2.out
                rw [List.foldl_cons, hst] at hgn
                have hlen := Kd.C_max HR0.out
                refine ⟨a' ++ [x], b, bs, todo, hbl, ⟨by rw [hl.out]; simp⟩, by simp at hgg; omega, ?_, ⟨hgn⟩, ⟨Kd.Q_set (Kd.Q_set HQ4.out BX.out (by decide) 0 _) (blk_put BX.out 0 _ rfl) (by decide) 1 _⟩, ⟨(Below.heap_setCell _ _ _ go (Ne.symm hne1)).trans ((Below.heap_setCell _ _ _ go (Ne.symm hne1)).trans BO4.out)⟩, ⟨(Below.heap_setCell _ _ _ gr (Ne.symm hne2)).trans ((Below.heap_setCell _ _ _ gr (Ne.symm hne2)).trans BR4.out)⟩, ⟨below_set (below_set HB4.out GX.out) GX.out⟩, ⟨by have := HT.out; simp at this; omega⟩⟩
                rw [List.length_append]
                unfold wrap64
                simp
                omega
theorem impl_below.mono_l (l : List S78) : ∀ k bs todo, LeO (impl_below.go l k bs todo) (impl_below.go l (k + 1) bs todo)
  | 0 => fun _ _ r h => by cases h
  | k + 1 => fun bs todo => by
    cases todo with
    | nil => exact LeO.refl _
    | cons a t =>
      rw [impl_below.go, impl_below.go]
      split
      · exact impl_below.mono_l l k _ _
      · exact LeO.none _
theorem impl_below.mono : ∀ a0 a1 k, LeO (impl_below.f k a0 a1) (impl_below.f (k + 1) a0 a1) := fun a0 a1 k => impl_below.mono_l a0 k _ _

/-! ### impl_ArePairs: function 29 -/
def impl_ArePairs.g (k : Nat) (l0 : List S78) : List S78 → Option Bool
  | [] => some (decide ((l0.length : Int) ≤ 10))
  | x :: t => if 0 ≤ x.f0 ∧ x.f0 ≤ 5 then if 0 ≤ x.f1 ∧ x.f1 ≤ 5 then (impl_below.f k l0 x.f0).bind fun bs => if bs.length = 6 then (if bs.getD x.f0.toNat false = true then some false else impl_ArePairs.g k l0 t) else none else some false else some false
def impl_ArePairs.f (k : Nat) (l0 : List S78) : Option Bool := impl_ArePairs.g k l0 l0
theorem impl_ArePairs.mono_l (k : Nat) (l0 : List S78) : ∀ l, LeO (impl_ArePairs.g k l0 l) (impl_ArePairs.g (k + 1) l0 l) := by
  intro l
  induction l with
  | nil => exact LeO.refl _
  | cons x t ih =>
    intro r h
    rw [impl_ArePairs.g] at h ⊢
    by_cases h0 : 0 ≤ x.f0 ∧ x.f0 ≤ 5
    · rw [if_pos h0] at h ⊢
      by_cases h1 : 0 ≤ x.f1 ∧ x.f1 ≤ 5
      · rw [if_pos h1] at h ⊢
        cases hb : impl_below.f k l0 x.f0 with
        | none => rw [hb] at h; cases h
        | some bs =>
          rw [hb, Option.bind_some] at h
          rw [impl_below.mono l0 x.f0 k _ hb, Option.bind_some]
          by_cases h6 : bs.length = 6
          · rw [if_pos h6] at h ⊢
            by_cases hx : bs.getD x.f0.toNat false = true
            · rw [if_pos hx] at h ⊢
              exact h
            · rw [if_neg hx] at h ⊢
              exact ih r h
          · rw [if_neg h6] at h
            cases h
      · rw [if_neg h1] at h ⊢
        exact h
    · rw [if_neg h0] at h ⊢
      exact h
theorem impl_ArePairs.mono : ∀ a0 k, LeO (impl_ArePairs.f k a0) (impl_ArePairs.f (k + 1) a0) := fun a0 k => impl_ArePairs.mono_l k a0 a0
set_option maxHeartbeats 8000000 in
set_option maxRecDepth 100000 in
theorem impl_ArePairs.calls (k : Nat) (A0 : Option Addr) (c0 : Nat) (l0 : List S78) (r : Bool) (w : World) (hr0 : Kd.C k78 w A0 l0.length l0) (hc0 : l0.length ≤ c0) (h : impl_ArePairs.f k l0 = some r) :
    Calls Try.prog 29 #[.slice A0 l0.length c0] w fun e w' => e = .returned (.bool r) ∧ Below w.heap.size w w' := by
  have HR0 := Aside0.mk hr0
  have HC0 := Aside0.mk hc0
  have hlen := Kd.C_max hr0
  have HL := Aside0.mk hlen
  clear hr0 hc0 hlen
  unfold impl_ArePairs.f at h
  have HH := Aside0.mk h
  clear h
  have HB := Aside0.mk (Below.refl w.heap.size w)
  have hisrole : ∀ z : Int, impl_isRole.f z = some (decide (0 ≤ z ∧ z ≤ 5)) := by
    intro z
    unfold impl_isRole.f impl_InRange.f
    by_cases h : 0 ≤ z
    · rw [if_pos h]; simp [h]
    · rw [if_neg h]; simp [h]
  go_enter Try.func29, Try.ntmps29
  go_wp2
  go_loopg [7] l0.length (fun gg v7 w' => ∃ (a' b : List S78), Aside0 (l0 = a' ++ b) ∧ b.length ≤ gg ∧ v7 = .int .i64 (a'.length : Int) ∧ Aside0 (impl_ArePairs.g k l0 b = some r) ∧ Aside0 (Below w.heap.size w w'))
  case atStart => exact ⟨[], l0, ⟨rfl⟩, Nat.le_refl _, rfl, HH, HB⟩
  case round =>
    clear HB HH
    obtain ⟨a', b, hl, hgg, rfl, HG, HB⟩ := hrel
    cases b with
    | nil =>
      have hd : decide ((a'.length : Int) < (l0.length : Int)) = false := decide_eq_false (by rw [hl.out]; simp)
      have hd2 : ((a'.length : Int) < (l0.length : Int)) = False := eq_false (by rw [hl.out]; simp)
      have hd3 : (a'.length < l0.length) = False := eq_false (by rw [hl.out]; simp)
      go_wp2
      go_ret
      have hg := HG.out
      rw [impl_ArePairs.g] at hg
      obtain rfl := Option.some.inj hg
      exact ⟨rfl, HB.out⟩
    | cons x b =>
      have hlt : (a'.length : Int) < (l0.length : Int) := by rw [hl.out]; simp; omega
      have hd : decide ((a'.length : Int) < (l0.length : Int)) = true := decide_eq_true hlt
      have hxx : rd_T78 l0 (a'.length : Int) = x := by
        unfold rd_T78
        rw [Int.toNat_natCast, hl.out, List.getD_eq_getElem?_getD, List.getElem?_append_right (Nat.le_refl _), Nat.sub_self]
        rfl
      obtain ⟨ad2, e2, hx0, hx1⟩ := at_T78 HR0.out (a'.length : Int) (by omega) hlt
      cases e2
      rw [hxx] at hx0 hx1
      replace hx0 := (HB.out.cell (World.block_lt_of_cell? w _ hx0)).trans hx0
      replace hx1 := (HB.out.cell (World.block_lt_of_cell? w _ hx1)).trans hx1
      have hlt' := eq_true hlt
      simp only [Int.toNat_natCast] at hx0 hx1
      cases gk with
      | zero => exact absurd hgg (by simp)
      | succ g1 =>
      have hg := HG.out
      clear HG
      rw [impl_ArePairs.g] at hg
      have hr0 := hisrole x.f0
      have hr1 := hisrole x.f1
      by_cases c0' : 0 ≤ x.f0 ∧ x.f0 ≤ 5
      · rw [if_pos c0'] at hg
        rw [decide_eq_true c0'] at hr0
        by_cases c1 : 0 ≤ x.f1 ∧ x.f1 ≤ 5
        · rw [if_pos c1] at hg
          rw [decide_eq_true c1] at hr1
          cases hq : impl_below.f k l0 x.f0 with
          | none => rw [hq] at hg; cases hg
          | some bs =>
          rw [hq, Option.bind_some] at hg
          by_cases hbl : bs.length = 6
          · rw [if_pos hbl] at hg
            obtain ⟨b0, b1, b2, b3, b4, b5, rfl⟩ : ∃ b0 b1 b2 b3 b4 b5, bs = [b0, b1, b2, b3, b4, b5] := by
              match bs, hbl with
              | [b0, b1, b2, b3, b4, b5], _ => exact ⟨b0, b1, b2, b3, b4, b5, rfl⟩
            have HQ := Aside0.mk hq
            clear hq hbl
            have hix : ∀ W : World, (Instr.index 89 (.agg (arrV [b0, b1, b2, b3, b4, b5])) (.int .i64 x.f0)).run Try.prog W = .ok (.bool ([b0, b1, b2, b3, b4, b5].getD x.f0.toNat false)) W := by
              intro W
              generalize x.f0 = v at c0' ⊢
              have : v = 0 ∨ v = 1 ∨ v = 2 ∨ v = 3 ∨ v = 4 ∨ v = 5 := by omega
              rcases this with rfl | rfl | rfl | rfl | rfl | rfl <;> (simp [Instr.index, run_underlying Try.underlying89, asIntOf, arrV, go_sem]; done)
            clear c0' c1
            generalize [b0, b1, b2, b3, b4, b5].getD x.f0.toNat false = bb at hix hg
            cases bb with
            | true =>
              rw [if_pos rfl] at hg
              have HG := Aside0.mk hg
              clear hg
              go_wp2_with (first | ((with_reducible refine gate_dst (N := 4) rfl ?_); refine box_event ?hg (N := 4) ?hd (cs := #[.int .i64 0, .int .i64 0]) (t := 78) ?hr ?_; (case hd => rfl); (case hg => rfl); (case hr => first | (go_simp; done) | (go_simp; rfl)); intro gx hgx w4 hbx hb4; have BX := Aside0.mk hbx; have HB4 := Aside0.mk (below_step HB.out hb4); have GX := Aside0.mk ((by rw [hgx]; exact below_size HB.out : w.heap.size ≤ gx)); clear HB hbx hb4 hgx; have hcx0 : w4.cell? ⟨gx, 0, none⟩ = some (.int .i64 0) := (blk_cell BX.out 0).trans rfl; have hcx1 : w4.cell? ⟨gx, 1, none⟩ = some (.int .i64 0) := (blk_cell BX.out 1).trans rfl; have hfx0 := blk_frozen BX.out 0; have hfx1 := blk_frozen BX.out 1))
              go_region_with (first | (go_at_call 70; refine (impl_isRole.calls x.f0 true _ hr0).mono ?_; rintro e w' ⟨rfl, ⟨nd, rfl⟩⟩) | (go_at_call 70; refine (impl_isRole.calls x.f1 true _ hr1).mono ?_; rintro e w' ⟨rfl, ⟨nd, rfl⟩⟩) | (go_at_call 71; refine (impl_below.calls k _ _ l0 x.f0 [b0, b1, b2, b3, b4, b5] _ (Kd.C_below HR0.out (by repeat (first | (with_reducible first | exact HB4.out | apply below_alloc | apply pw_below_drewN | apply below_drew1 | refine below_set ?_ GX.out) | exact HB4.out))) HC0.out HQ.out).mono ?_; rintro e w10 ⟨rfl, hb'⟩; have HB10 := Aside0.mk (below_step (by repeat (first | (with_reducible first | exact HB4.out | apply below_alloc | apply pw_below_drewN | apply below_drew1 | refine below_set ?_ GX.out) | exact HB4.out)) hb'); have hcy : w10.cell? ⟨gx, 0, none⟩ = some (.int .i64 x.f0) := (blk_cell (t := 78) (cs := #[.int .i64 x.f0, .int .i64 x.f1]) (blk_below (by (with_reducible repeat (first | refine blk_drewN ?_ _ | refine blk_drew ?_ | refine blk_alloc ?_ _)); exact blk_put (cs := #[.int .i64 x.f0, .int .i64 0]) (blk_put (cs := #[.int .i64 0, .int .i64 0]) BX.out 0 _ rfl) 1 _ rfl) hb') 0).trans rfl; clear hb'))
              all_goals (go_wp2; go_ret; exact ⟨Option.some.inj HG.out ▸ rfl, HB10.out⟩)
            | false =>
              rw [if_neg (by simp)] at hg
              have HG := Aside0.mk hg
              clear hg
              go_wp2_with (first | ((with_reducible refine gate_dst (N := 4) rfl ?_); refine box_event ?hg (N := 4) ?hd (cs := #[.int .i64 0, .int .i64 0]) (t := 78) ?hr ?_; (case hd => rfl); (case hg => rfl); (case hr => first | (go_simp; done) | (go_simp; rfl)); intro gx hgx w4 hbx hb4; have BX := Aside0.mk hbx; have HB4 := Aside0.mk (below_step HB.out hb4); have GX := Aside0.mk ((by rw [hgx]; exact below_size HB.out : w.heap.size ≤ gx)); clear HB hbx hb4 hgx; have hcx0 : w4.cell? ⟨gx, 0, none⟩ = some (.int .i64 0) := (blk_cell BX.out 0).trans rfl; have hcx1 : w4.cell? ⟨gx, 1, none⟩ = some (.int .i64 0) := (blk_cell BX.out 1).trans rfl; have hfx0 := blk_frozen BX.out 0; have hfx1 := blk_frozen BX.out 1))
              go_region_with (first | (go_at_call 70; refine (impl_isRole.calls x.f0 true _ hr0).mono ?_; rintro e w' ⟨rfl, ⟨nd, rfl⟩⟩) | (go_at_call 70; refine (impl_isRole.calls x.f1 true _ hr1).mono ?_; rintro e w' ⟨rfl, ⟨nd, rfl⟩⟩) | (go_at_call 71; refine (impl_below.calls k _ _ l0 x.f0 [b0, b1, b2, b3, b4, b5] _ (Kd.C_below HR0.out (by repeat (first | (with_reducible first | exact HB4.out | apply below_alloc | apply pw_below_drewN | apply below_drew1 | refine below_set ?_ GX.out) | exact HB4.out))) HC0.out HQ.out).mono ?_; rintro e w10 ⟨rfl, hb'⟩; have HB10 := Aside0.mk (below_step (by repeat (first | (with_reducible first | exact HB4.out | apply below_alloc | apply pw_below_drewN | apply below_drew1 | refine below_set ?_ GX.out) | exact HB4.out)) hb'); have hcy : w10.cell? ⟨gx, 0, none⟩ = some (.int .i64 x.f0) := (blk_cell (t := 78) (cs := #[.int .i64 x.f0, .int .i64 x.f1]) (blk_below (by (with_reducible repeat (first | refine blk_drewN ?_ _ | refine blk_drew ?_ | refine blk_alloc ?_ _)); exact blk_put (cs := #[.int .i64 x.f0, .int .i64 0]) (blk_put (cs := #[.int .i64 0, .int .i64 0]) BX.out 0 _ rfl) 1 _ rfl) hb') 0).trans rfl; clear hb'))
              all_goals (go_wp2; go_roundg g1; (case measure => omega); (case rel => exact ⟨a' ++ [x], b, ⟨by rw [hl.out]; simp⟩, by simp at hgg; omega, by have := HL.out; rw [List.length_append]; unfold wrap64; rw [hl.out] at this; simp at this ⊢; omega, HG, HB10⟩))
          · rw [if_neg hbl] at hg
            cases hg
        · rw [if_neg c1] at hg
          rw [decide_eq_false c1] at hr1
          have HG := Aside0.mk hg
          clear hg c0' c1
          go_wp2_with (first | ((with_reducible refine gate_dst (N := 4) rfl ?_); refine box_event ?hg (N := 4) ?hd (cs := #[.int .i64 0, .int .i64 0]) (t := 78) ?hr ?_; (case hd => rfl); (case hg => rfl); (case hr => first | (go_simp; done) | (go_simp; rfl)); intro gx hgx w4 hbx hb4; have BX := Aside0.mk hbx; have HB4 := Aside0.mk (below_step HB.out hb4); have GX := Aside0.mk ((by rw [hgx]; exact below_size HB.out : w.heap.size ≤ gx)); clear HB hbx hb4 hgx; have hcx0 : w4.cell? ⟨gx, 0, none⟩ = some (.int .i64 0) := (blk_cell BX.out 0).trans rfl; have hcx1 : w4.cell? ⟨gx, 1, none⟩ = some (.int .i64 0) := (blk_cell BX.out 1).trans rfl; have hfx0 := blk_frozen BX.out 0; have hfx1 := blk_frozen BX.out 1))
          repeat (go_quiet (first | (go_at_call 70; refine (impl_isRole.calls x.f0 true _ hr0).mono ?_; rintro e w' ⟨rfl, ⟨nd, rfl⟩⟩; (try first | exact ⟨rfl, _, World.drewN_drewN _ _ _⟩ | exact ⟨rfl, _, Eq.trans (World.drewN_drewN _ _ _) (congrArg (World.drewN _) (Nat.add_assoc _ _ _))⟩)) | (go_at_call 70; refine (impl_isRole.calls x.f1 false _ hr1).mono ?_; rintro e w' ⟨rfl, ⟨nd, rfl⟩⟩; (try first | exact ⟨rfl, _, World.drewN_drewN _ _ _⟩ | exact ⟨rfl, _, Eq.trans (World.drewN_drewN _ _ _) (congrArg (World.drewN _) (Nat.add_assoc _ _ _))⟩))); try go_wp2)
          go_ret
          have hg := HG.out
          obtain rfl := Option.some.inj hg
          exact ⟨rfl, (by repeat (first | (with_reducible first | exact HB4.out | apply below_alloc | apply pw_below_drewN | apply below_drew1 | refine below_set ?_ GX.out) | exact HB4.out))⟩
      · rw [if_neg c0'] at hg
        rw [decide_eq_false c0'] at hr0
        have HG := Aside0.mk hg
        clear hg c0'
        go_wp2_with (first | ((with_reducible refine gate_dst (N := 4) rfl ?_); refine box_event ?hg (N := 4) ?hd (cs := #[.int .i64 0, .int .i64 0]) (t := 78) ?hr ?_; (case hd => rfl); (case hg => rfl); (case hr => first | (go_simp; done) | (go_simp; rfl)); intro gx hgx w4 hbx hb4; have BX := Aside0.mk hbx; have HB4 := Aside0.mk (below_step HB.out hb4); have GX := Aside0.mk ((by rw [hgx]; exact below_size HB.out : w.heap.size ≤ gx)); clear HB hbx hb4 hgx; have hcx0 : w4.cell? ⟨gx, 0, none⟩ = some (.int .i64 0) := (blk_cell BX.out 0).trans rfl; have hcx1 : w4.cell? ⟨gx, 1, none⟩ = some (.int .i64 0) := (blk_cell BX.out 1).trans rfl; have hfx0 := blk_frozen BX.out 0; have hfx1 := blk_frozen BX.out 1))
        repeat (go_quiet (first | (go_at_call 70; refine (impl_isRole.calls x.f0 false _ hr0).mono ?_; rintro e w' ⟨rfl, ⟨nd, rfl⟩⟩; (try first | exact ⟨rfl, _, World.drewN_drewN _ _ _⟩ | exact ⟨rfl, _, Eq.trans (World.drewN_drewN _ _ _) (congrArg (World.drewN _) (Nat.add_assoc _ _ _))⟩))); try go_wp2)
        go_ret
        have hg := HG.out
        obtain rfl := Option.some.inj hg
        exact ⟨rfl, (by repeat (first | (with_reducible first | exact HB4.out | apply below_alloc | apply pw_below_drewN | apply below_drew1 | refine below_set ?_ GX.out) | exact HB4.out))⟩

/-! ### laws_FnExactArePairs: function 4 -/
def laws_FnExactArePairs.f (k : Nat) (l0 : List (S80)) : Option (Bool) := (laws_szIncludesS.f l0 1048576).bind fun t148 => (if t148 < 0 then (some true) else ((laws_toIncludesS.f k l0).bind fun t149 => ((spec_ArePairs.f k t149).bind fun t152 => ((laws_toIncludesS.f k l0).bind fun t153 => ((impl_ArePairs.f k t153).bind fun t156 => (if (t156 != t152) = true then (some false) else ((laws_toIncludesS.f k l0).bind fun t157 => ((laws_eqIncludesS.f k t153 t157).bind fun t160 => (if t160 = true then (some true) else (some false))))))))))
theorem laws_FnExactArePairs.mono : ∀ a0 k, LeO (laws_FnExactArePairs.f k a0) (laws_FnExactArePairs.f (k + 1) a0) := by
  intro a0 k
  unfold laws_FnExactArePairs.f
  repeat' first
      | (with_reducible exact impl_ArePairs.mono _ _)
      | (with_reducible exact laws_eqIncludesS.mono _ _ _)
      | (with_reducible exact laws_toIncludesS.mono _ _)
      | (with_reducible exact spec_ArePairs.mono _ _)
      | (with_reducible exact LeO.refl _)
      | (with_reducible exact LeO.none _)
      | (with_reducible refine LeO.ite ?_ ?_)
      | (with_reducible refine LeO.bind ?_ (fun _ => ?_))
      | exact impl_ArePairs.mono _ _
      | exact laws_eqIncludesS.mono _ _ _
      | exact laws_toIncludesS.mono _ _
      | exact spec_ArePairs.mono _ _
      | exact LeO.none _
      | refine LeO.ite ?_ ?_
      | refine LeO.bind ?_ (fun _ => ?_)
set_option maxHeartbeats 8000000 in
set_option maxRecDepth 100000 in
theorem laws_FnExactArePairs.calls (k : Nat) (A0 : Option Addr) (c0 : Nat) (l0 : List (S80)) (r : Bool) (w : World) (hr0 : Kd.C k80 w A0 l0.length l0) (hc0 : l0.length ≤ c0) (h : laws_FnExactArePairs.f k l0 = some r) (hr_ : Aside0 (r = true)) :
    Calls Try.prog 4 #[.slice A0 l0.length c0] w fun e w' => e = .returned (.bool r) ∧ Below w.heap.size w w' := by
  have HR0 := Aside0.mk hr0
  have HC0 := Aside0.mk hc0
  clear hr0 hc0
  have HB := Aside0.mk (Below.refl w.heap.size w)
  have H : ((laws_szIncludesS.f l0 1048576).bind fun t148 => (if t148 < 0 then (some true) else ((laws_toIncludesS.f k l0).bind fun t149 => ((spec_ArePairs.f k t149).bind fun t152 => ((laws_toIncludesS.f k l0).bind fun t153 => ((impl_ArePairs.f k t153).bind fun t156 => (if (t156 != t152) = true then (some false) else ((laws_toIncludesS.f k l0).bind fun t157 => ((laws_eqIncludesS.f k t153 t157).bind fun t160 => (if t160 = true then (some true) else (some false))))))))))) = some r := h
  clear h
  replace H := Option.bind_eq_some_iff.mp H
  obtain ⟨t148, A20, H⟩ := H
  replace H : (if t148 < 0 then (some true) else ((laws_toIncludesS.f k l0).bind fun t149 => ((spec_ArePairs.f k t149).bind fun t152 => ((laws_toIncludesS.f k l0).bind fun t153 => ((impl_ArePairs.f k t153).bind fun t156 => (if (t156 != t152) = true then (some false) else ((laws_toIncludesS.f k l0).bind fun t157 => ((laws_eqIncludesS.f k t153 t157).bind fun t160 => (if t160 = true then (some true) else (some false)))))))))) = some r := H
  have A2 := Aside0.mk A20
  clear A20
  by_cases c3 : t148 < 0
  · rw [if_pos c3] at H
    have c3b0 : decide (t148 < 0) = true := decide_eq_true c3
    clear c3
    obtain rfl := Option.some.inj H
    go_enter Try.func4, Try.ntmps4
    go_wp2_with (first | ((with_reducible refine gate_callee (f := 15) rfl ?_); refine goesL_ (some 9) rfl rfl Try.func15 (by kernel_rfl) rfl #[.slice A0 l0.length c0, .int .i64 1048576] rfl (by (try simp only [List.map_toArray, List.map_cons, List.map_nil]); first | done | rfl | (simp only [List.length_drop, List.length_take]; rfl)) ?_; (with_reducible refine (laws_szIncludesS.calls _ _ l0 1048576 t148 _ ?side1 ?side2 A2.out).mono ?_); (case side1 => repeat (first | exact HR0.out | (with_reducible refine Kd.C_alloc ?_ _) | (with_reducible refine Kd.C_drewN ?_ _) | (with_reducible refine Kd.C_drew ?_))); (case side2 => exact HC0.out); rintro e w' ⟨rfl, ⟨nd, rfl⟩⟩; refine ⟨_, rfl, ?_⟩))
    go_ret
    exact ⟨by first | rfl | (simp [errW_none, errW_some] <;> rfl) | (simp [*, errW_none, errW_some] <;> rfl), by repeat (first | (with_reducible first | exact HB.out | apply below_alloc | apply pw_below_drewN | apply below_drew1) | exact HB.out)⟩
  · rw [if_neg c3] at H
    have c3b0 : decide (t148 < 0) = false := decide_eq_false c3
    clear c3
    replace H := Option.bind_eq_some_iff.mp H
    obtain ⟨t149, A40, H⟩ := H
    replace H : ((spec_ArePairs.f k t149).bind fun t152 => ((laws_toIncludesS.f k l0).bind fun t153 => ((impl_ArePairs.f k t153).bind fun t156 => (if (t156 != t152) = true then (some false) else ((laws_toIncludesS.f k l0).bind fun t157 => ((laws_eqIncludesS.f k t153 t157).bind fun t160 => (if t160 = true then (some true) else (some false)))))))) = some r := H
    have A4 := Aside0.mk A40
    clear A40
    replace H := Option.bind_eq_some_iff.mp H
    obtain ⟨t152, A50, H⟩ := H
    replace H : ((laws_toIncludesS.f k l0).bind fun t153 => ((impl_ArePairs.f k t153).bind fun t156 => (if (t156 != t152) = true then (some false) else ((laws_toIncludesS.f k l0).bind fun t157 => ((laws_eqIncludesS.f k t153 t157).bind fun t160 => (if t160 = true then (some true) else (some false))))))) = some r := H
    have A5 := Aside0.mk A50
    clear A50
    replace H := Option.bind_eq_some_iff.mp H
    obtain ⟨t153, A60, H⟩ := H
    replace H : ((impl_ArePairs.f k t153).bind fun t156 => (if (t156 != t152) = true then (some false) else ((laws_toIncludesS.f k l0).bind fun t157 => ((laws_eqIncludesS.f k t153 t157).bind fun t160 => (if t160 = true then (some true) else (some false)))))) = some r := H
    have A6 := Aside0.mk A60
    clear A60
    replace H := Option.bind_eq_some_iff.mp H
    obtain ⟨t156, A70, H⟩ := H
    replace H : (if (t156 != t152) = true then (some false) else ((laws_toIncludesS.f k l0).bind fun t157 => ((laws_eqIncludesS.f k t153 t157).bind fun t160 => (if t160 = true then (some true) else (some false))))) = some r := H
    have A7 := Aside0.mk A70
    clear A70
    by_cases c8 : (t156 != t152) = true
    · rw [if_pos c8] at H
      have c8b0 : (t156 != t152) = true := c8
      (try (have c8b1 : decide (t156 = t152) = false := by simpa using c8))
      (try (have c8b2 : (t156 == t152) = false := by simpa using c8))
      (try (have c8b3 : ¬ (t156 = t152) := by simpa using c8))
      clear c8
      exact absurd ((Option.some.inj H).trans hr_.out) (by decide)
    · rw [if_neg c8] at H
      have c8b0 : (t156 != t152) = false := by simpa using c8
      (try (have c8b1 : decide (t156 = t152) = true := by simpa using c8))
      (try (have c8b2 : (t156 == t152) = true := by simpa using c8))
      clear c8
      replace H := Option.bind_eq_some_iff.mp H
      obtain ⟨t157, A90, H⟩ := H
      replace H : ((laws_eqIncludesS.f k t153 t157).bind fun t160 => (if t160 = true then (some true) else (some false))) = some r := H
      have A9 := Aside0.mk A90
      clear A90
      replace H := Option.bind_eq_some_iff.mp H
      obtain ⟨t160, A100, H⟩ := H
      replace H : (if t160 = true then (some true) else (some false)) = some r := H
      have A10 := Aside0.mk A100
      clear A100
      by_cases c11 : t160 = true
      · subst c11
        have H1 : (some true) = some r := by rw [if_pos rfl] at H; exact H
        clear H
        have H := H1
        clear H1
        obtain rfl := Option.some.inj H
        go_enter Try.func4, Try.ntmps4
        go_wp2_with (first | ((with_reducible refine gate_callee (f := 15) rfl ?_); refine goesL_ (some 9) rfl rfl Try.func15 (by kernel_rfl) rfl #[.slice A0 l0.length c0, .int .i64 1048576] rfl (by (try simp only [List.map_toArray, List.map_cons, List.map_nil]); first | done | rfl | (simp only [List.length_drop, List.length_take]; rfl)) ?_; (with_reducible refine (laws_szIncludesS.calls _ _ l0 1048576 t148 _ ?side1 ?side2 A2.out).mono ?_); (case side1 => repeat (first | exact HR0.out | (with_reducible refine Kd.C_alloc ?_ _) | (with_reducible refine Kd.C_drewN ?_ _) | (with_reducible refine Kd.C_drew ?_))); (case side2 => exact HC0.out); rintro e w' ⟨rfl, ⟨nd, rfl⟩⟩; refine ⟨_, rfl, ?_⟩) | ((with_reducible refine gate_callee (f := 18) rfl ?_); refine goesL_ (some 13) rfl rfl Try.func18 (by kernel_rfl) rfl #[.slice A0 l0.length c0] rfl (by (try simp only [List.map_toArray, List.map_cons, List.map_nil]); first | done | rfl | (simp only [List.length_drop, List.length_take]; rfl)) ?_; (with_reducible refine (laws_toIncludesS.calls k _ _ l0 t149 _ ?side1 ?side2 A4.out).mono ?_); (case side1 => repeat (first | exact HR0.out | (with_reducible refine Kd.C_alloc ?_ _) | (with_reducible refine Kd.C_drewN ?_ _) | (with_reducible refine Kd.C_drew ?_))); (case side2 => exact HC0.out); rintro e w12 ⟨v150, rfl, ho0, hb⟩; refine ⟨_, rfl, ?_⟩; have n0_ := Aside0.mk (Kd.R_lower ho0 (below_size (by repeat (first | (with_reducible first | exact HB.out | apply below_alloc | apply pw_below_drewN | apply below_drew1) | exact HB.out)))); have n1_ := Aside0.mk (below_step (by repeat (first | (with_reducible first | exact HB.out | apply below_alloc | apply pw_below_drewN | apply below_drew1) | exact HB.out)) hb); clear HB; have HO151 := n0_; have HB := n1_; clear n0_ n1_; (try clear hb); (try clear hb2); (try clear hk); (try clear hi); (try clear ho0); obtain ⟨Ao13, co13, eo13⟩ := Kd.R_slice HO151.out; subst eo13) | ((with_reducible refine gate_callee (f := 28) rfl ?_); refine goesL_ (some 14) rfl rfl Try.func28 (by kernel_rfl) rfl #[.slice Ao13 t149.length co13] rfl (by (try simp only [List.map_toArray, List.map_cons, List.map_nil]); first | done | rfl | (simp only [List.length_drop, List.length_take]; rfl)) ?_; (with_reducible refine (spec_ArePairs.calls k _ _ t149 t152 _ ?side1 ?side2 A5.out).mono ?_); (case side1 => repeat (first | exact (Kd.R_reads' HO151.out).2.2 | (with_reducible refine Kd.C_alloc ?_ _) | (with_reducible refine Kd.C_drewN ?_ _) | (with_reducible refine Kd.C_drew ?_))); (case side2 => exact (Kd.R_reads' HO151.out).2.1); rintro e w14 ⟨rfl, hb⟩; refine ⟨_, rfl, ?_⟩; have n0_ := Aside0.mk (Kd.R_below (by (with_reducible repeat (first | apply Kd.R_alloc | apply Kd.R_drewN | apply Kd.R_drew)); exact HO151.out) hb); have n1_ := Aside0.mk (below_step (by repeat (first | (with_reducible first | exact HB.out | apply below_alloc | apply pw_below_drewN | apply below_drew1) | exact HB.out)) hb); clear HO151; clear HB; have HO151 := n0_; have HB := n1_; clear n0_ n1_; (try clear hb); (try clear hb2); (try clear hk); (try clear hi)) | ((with_reducible refine gate_callee (f := 18) rfl ?_); refine goesL_ (some 16) rfl rfl Try.func18 (by kernel_rfl) rfl #[.slice A0 l0.length c0] rfl (by (try simp only [List.map_toArray, List.map_cons, List.map_nil]); first | done | rfl | (simp only [List.length_drop, List.length_take]; rfl)) ?_; (with_reducible refine (laws_toIncludesS.calls k _ _ l0 t153 _ ?side1 ?side2 A6.out).mono ?_); (case side1 => repeat (first | exact (Kd.C_below HR0.out HB.out) | (with_reducible refine Kd.C_alloc ?_ _) | (with_reducible refine Kd.C_drewN ?_ _) | (with_reducible refine Kd.C_drew ?_))); (case side2 => exact HC0.out); rintro e w15 ⟨v154, rfl, ho0, hb⟩; refine ⟨_, rfl, ?_⟩; have n0_ := Aside0.mk (Kd.R_elder' (by (with_reducible repeat (first | apply Kd.R_alloc | apply Kd.R_drewN | apply Kd.R_drew)); exact HO151.out) (Kd.R_base ho0) hb); have n1_ := Aside0.mk (Kd.R_lower (Kd.R_new' ho0 (Kd.R_lt (by (with_reducible repeat (first | apply Kd.R_alloc | apply Kd.R_drewN | apply Kd.R_drew)); exact HO151.out))) (below_size (by repeat (first | (with_reducible first | exact HB.out | apply below_alloc | apply pw_below_drewN | apply below_drew1) | exact HB.out)))); have n2_ := Aside0.mk (below_step (by repeat (first | (with_reducible first | exact HB.out | apply below_alloc | apply pw_below_drewN | apply below_drew1) | exact HB.out)) hb); clear HO151; clear HB; have HO151 := n0_; have HO155 := n1_; have HB := n2_; clear n0_ n1_ n2_; (try clear hb); (try clear hb2); (try clear hk); (try clear hi); (try clear ho0); obtain ⟨Ao16, co16, eo16⟩ := Kd.R_slice HO155.out; subst eo16) | ((with_reducible refine gate_callee (f := 29) rfl ?_); refine goesL_ (some 18) rfl rfl Try.func29 (by kernel_rfl) rfl #[.slice Ao16 t153.length co16] rfl (by (try simp only [List.map_toArray, List.map_cons, List.map_nil]); first | done | rfl | (simp only [List.length_drop, List.length_take]; rfl)) ?_; (with_reducible refine (impl_ArePairs.calls k _ _ t153 t156 _ ?side1 ?side2 A7.out).mono ?_); (case side1 => repeat (first | exact (Kd.R_reads' HO155.out).2.2 | (with_reducible refine Kd.C_alloc ?_ _) | (with_reducible refine Kd.C_drewN ?_ _) | (with_reducible refine Kd.C_drew ?_))); (case side2 => exact (Kd.R_reads' HO155.out).2.1); rintro e w17 ⟨rfl, hb⟩; refine ⟨_, rfl, ?_⟩; have n0_ := Aside0.mk (Kd.R_below (by (with_reducible repeat (first | apply Kd.R_alloc | apply Kd.R_drewN | apply Kd.R_drew)); exact HO151.out) hb); have n1_ := Aside0.mk (Kd.R_below (by (with_reducible repeat (first | apply Kd.R_alloc | apply Kd.R_drewN | apply Kd.R_drew)); exact HO155.out) hb); have n2_ := Aside0.mk (below_step (by repeat (first | (with_reducible first | exact HB.out | apply below_alloc | apply pw_below_drewN | apply below_drew1) | exact HB.out)) hb); clear HO151; clear HO155; clear HB; have HO151 := n0_; have HO155 := n1_; have HB := n2_; clear n0_ n1_ n2_; (try clear hb); (try clear hb2); (try clear hk); (try clear hi)) | ((with_reducible refine gate_callee (f := 18) rfl ?_); refine goesL_ (some 24) rfl rfl Try.func18 (by kernel_rfl) rfl #[.slice A0 l0.length c0] rfl (by (try simp only [List.map_toArray, List.map_cons, List.map_nil]); first | done | rfl | (simp only [List.length_drop, List.length_take]; rfl)) ?_; (with_reducible refine (laws_toIncludesS.calls k _ _ l0 t157 _ ?side1 ?side2 A9.out).mono ?_); (case side1 => repeat (first | exact (Kd.C_below HR0.out HB.out) | (with_reducible refine Kd.C_alloc ?_ _) | (with_reducible refine Kd.C_drewN ?_ _) | (with_reducible refine Kd.C_drew ?_))); (case side2 => exact HC0.out); rintro e w18 ⟨v158, rfl, ho0, hb⟩; refine ⟨_, rfl, ?_⟩; have n0_ := Aside0.mk (Kd.R_elder' (by (with_reducible repeat (first | apply Kd.R_alloc | apply Kd.R_drewN | apply Kd.R_drew)); exact HO151.out) (Kd.R_base ho0) hb); have n1_ := Aside0.mk (Kd.R_elder' (by (with_reducible repeat (first | apply Kd.R_alloc | apply Kd.R_drewN | apply Kd.R_drew)); exact HO155.out) (Kd.R_base ho0) hb); have n2_ := Aside0.mk (Kd.R_lower (Kd.R_new' (Kd.R_new' ho0 (Kd.R_lt (by (with_reducible repeat (first | apply Kd.R_alloc | apply Kd.R_drewN | apply Kd.R_drew)); exact HO151.out))) (Kd.R_lt (by (with_reducible repeat (first | apply Kd.R_alloc | apply Kd.R_drewN | apply Kd.R_drew)); exact HO155.out))) (below_size (by repeat (first | (with_reducible first | exact HB.out | apply below_alloc | apply pw_below_drewN | apply below_drew1) | exact HB.out)))); have n3_ := Aside0.mk (below_step (by repeat (first | (with_reducible first | exact HB.out | apply below_alloc | apply pw_below_drewN | apply below_drew1) | exact HB.out)) hb); clear HO151; clear HO155; clear HB; have HO151 := n0_; have HO155 := n1_; have HO159 := n2_; have HB := n3_; clear n0_ n1_ n2_ n3_; (try clear hb); (try clear hb2); (try clear hk); (try clear hi); (try clear ho0); obtain ⟨Ao19, co19, eo19⟩ := Kd.R_slice HO159.out; subst eo19) | ((with_reducible refine gate_callee (f := 22) rfl ?_); refine goesL_ (some 25) rfl rfl Try.func22 (by kernel_rfl) rfl #[.slice Ao16 t153.length co16, .slice Ao19 t157.length co19] rfl (by (try simp only [List.map_toArray, List.map_cons, List.map_nil]); first | done | rfl | (simp only [List.length_drop, List.length_take]; rfl)) ?_; (with_reducible refine (laws_eqIncludesS.calls k _ _ t153 _ _ t157 true _ ?side1 ?side2 ?side3 ?side4 A10.out).mono ?_); (case side1 => repeat (first | exact (Kd.R_reads' HO155.out).2.2 | (with_reducible refine Kd.C_alloc ?_ _) | (with_reducible refine Kd.C_drewN ?_ _) | (with_reducible refine Kd.C_drew ?_))); (case side2 => exact (Kd.R_reads' HO155.out).2.1); (case side3 => repeat (first | exact (Kd.R_reads' HO159.out).2.2 | (with_reducible refine Kd.C_alloc ?_ _) | (with_reducible refine Kd.C_drewN ?_ _) | (with_reducible refine Kd.C_drew ?_))); (case side4 => exact (Kd.R_reads' HO159.out).2.1); rintro e w20 ⟨rfl, hb⟩; refine ⟨_, rfl, ?_⟩; have n0_ := Aside0.mk (Kd.R_below (by (with_reducible repeat (first | apply Kd.R_alloc | apply Kd.R_drewN | apply Kd.R_drew)); exact HO151.out) hb); have n1_ := Aside0.mk (Kd.R_below (by (with_reducible repeat (first | apply Kd.R_alloc | apply Kd.R_drewN | apply Kd.R_drew)); exact HO155.out) hb); have n2_ := Aside0.mk (Kd.R_below (by (with_reducible repeat (first | apply Kd.R_alloc | apply Kd.R_drewN | apply Kd.R_drew)); exact HO159.out) hb); have n3_ := Aside0.mk (below_step (by repeat (first | (with_reducible first | exact HB.out | apply below_alloc | apply pw_below_drewN | apply below_drew1) | exact HB.out)) hb); clear HO151; clear HO155; clear HO159; clear HB; have HO151 := n0_; have HO155 := n1_; have HO159 := n2_; have HB := n3_; clear n0_ n1_ n2_ n3_; (try clear hb); (try clear hb2); (try clear hk); (try clear hi)))
        go_ret
        exact ⟨by first | rfl | (simp [errW_none, errW_some] <;> rfl) | (simp [*, errW_none, errW_some] <;> rfl), by repeat (first | (with_reducible first | exact HB.out | apply below_alloc | apply pw_below_drewN | apply below_drew1) | exact HB.out)⟩
      · replace c11 := Bool.eq_false_iff.mpr c11
        subst c11
        have H1 : (some false) = some r := by rw [if_neg (show ¬ (false = true) by decide)] at H; exact H
        clear H
        have H := H1
        clear H1
        exact absurd ((Option.some.inj H).trans hr_.out) (by decide)

def wf80 (x : S80) : Prop := (Lit.int .i64 x.f0).wf = true ∧ (Lit.int .i64 x.f1).wf = true
/-- THE ONE PURE STATEMENT of laws_FnExactArePairs. -/
def laws_FnExactArePairs.Pure : Prop := ∀ (l0 : List (S80)), ((l0.length ≤ maxLen ∧ ∀ y2 ∈ l0, wf80 y2)) → ∃ k, laws_FnExactArePairs.f k l0 = some true

end Go.Proofs.Ytgmgoabohppkeaa.XFnExactArePairs
