/- Written by this session's own program (wip/xprint, which runs over the kit's print): what the functions that the law reaches come to, each proved; and the law's row. Conditions: none. -/
import Derived.Test.YtgmgoabohppkeaaXFnExactRolesUnderx0
import Derived.Test.YtgmgoabohppkeaaXFnExactRolesUnderx1
import Derived.Test.YtgmgoabohppkeaaXFnExactRolesUnderx2
namespace Go.Proofs.Ytgmgoabohppkeaa.XFnExactRolesUnder
open Go.RowKit Go.Proofs.YtgmgoabohppkeaaW.PrintWords Go.Proofs.YtgmgoabohppkeaaW.PrintLast Go.Proofs.YtgmgoabohppkeaaW.PrintMore
attribute [local go_sem] max2_int min2_int max_two min_two max_three min_three max_four min_four   -- for this text's walks alone
set_option linter.unusedVariables false
set_option linter.unusedSimpArgs false

/-! ### impl_below: function 71 -/
def impl_below.st (at' : Int) (s : List Bool × List Int) (x : S78) : List Bool × List Int := if x.f0 = at' ∧ (0 ≤ x.f1 ∧ x.f1 ≤ 5) ∧ s.1.getD x.f1.toNat false = false then (s.1.set x.f1.toNat true, s.2 ++ [x.f1]) else s
def impl_below.go (l : List S78) : Nat → List Bool → List Int → Option (List Bool)
  | 0, _, _ => none
  | k + 1, bs, [] => some bs
  | k + 1, bs, a :: t => if t.length + l.length < 1000000000 then impl_below.go l k (l.foldl (impl_below.st a) (bs, t)).1 (l.foldl (impl_below.st a) (bs, t)).2 else none
def impl_below.f (k : Nat) (l : List S78) (a : Int) : Option (List Bool) := impl_below.go l k (List.replicate 6 false) [a]
def arrV (bs : List Bool) : Array Value := (bs.map Value.bool).toArray
set_option maxHeartbeats 8000000 in
set_option maxRecDepth 100000 in
theorem impl_below.calls (k : Nat) (A0 : Option Addr) (c0 : Nat) (l0 : List (S78)) (a1 : Int) (r : List Bool) (w : World) (hr0 : Kd.C k78 w A0 l0.length l0) (hc0 : l0.length ≤ c0) (h : impl_below.f k l0 a1 = some r) :
    Calls Try.prog 71 #[.slice A0 l0.length c0, .int .i64 a1] w fun e w' => e = .returned (.agg (arrV r)) ∧ Below w.heap.size w w' := by
  have HH := Aside0.mk h
  clear h
  have HR0 := Aside0.mk hr0
  clear hr0 hc0
  have HB := Aside0.mk (Below.refl w.heap.size w)
  go_enter Try.func71, Try.ntmps71
  go_wp2_with (first
    | ((with_reducible refine gate_dst (N := 4) rfl ?_); refine box_event ?hg (N := 4) ?hd (cs := #[.bool false, .bool false, .bool false, .bool false, .bool false, .bool false]) (t := 89) ?hr ?_; (case hd => rfl); (case hg => rfl); (case hr => first | (go_simp; done) | (go_simp; rfl)); intro gr hgr w1 hbr hb1; have BR := Aside0.mk hbr; have HB1 := Aside0.mk (below_step HB.out hb1); have GR := Aside0.mk ((by rw [hgr]; exact Nat.le_refl _ : w.heap.size ≤ gr)); clear HB hb1 hbr hgr)
    | ((with_reducible refine gate_dst (N := 5) rfl ?_); refine box_event ?hg (N := 5) ?hd (cs := #[.bool false, .bool false, .bool false, .bool false, .bool false, .bool false]) (t := 89) ?hr ?_; (case hd => rfl); (case hg => rfl); (case hr => first | (go_simp; done) | (go_simp; rfl)); intro go hgo w2 hbo hb2; have BO := Aside0.mk hbo; have HB2 := Aside0.mk (below_step HB1.out hb2); have NE := Aside0.mk (show go ≠ gr from by have := (Array.getElem?_eq_some_iff.1 BR.out).1; omega); have BR2 := Aside0.mk ((hb2.block gr (Array.getElem?_eq_some_iff.1 BR.out).1).trans BR.out); have GO := Aside0.mk ((by rw [hgo]; exact below_size HB1.out : w.heap.size ≤ go)); clear HB1 BR hb2 hbo hgo; have hcz0 : w2.cell? ⟨go, 0, none⟩ = some (.bool false) := (blk_cell BO.out 0).trans rfl; have hcz1 : w2.cell? ⟨go, 1, none⟩ = some (.bool false) := (blk_cell BO.out 1).trans rfl; have hcz2 : w2.cell? ⟨go, 2, none⟩ = some (.bool false) := (blk_cell BO.out 2).trans rfl; have hcz3 : w2.cell? ⟨go, 3, none⟩ = some (.bool false) := (blk_cell BO.out 3).trans rfl; have hcz4 : w2.cell? ⟨go, 4, none⟩ = some (.bool false) := (blk_cell BO.out 4).trans rfl; have hcz5 : w2.cell? ⟨go, 5, none⟩ = some (.bool false) := (blk_cell BO.out 5).trans rfl; have hfz0 := blk_frozen BO.out 0; have hfz1 := blk_frozen BO.out 1; have hfz2 := blk_frozen BO.out 2; have hfz3 := blk_frozen BO.out 3; have hfz4 := blk_frozen BO.out 4; have hfz5 := blk_frozen BO.out 5))
  have hz : ∀ (bs : List Bool) (i : Nat), bs.length = 6 → (arrV bs).size = 6 := fun bs i h => by simp [arrV, h]
  go_loopg [6] k (fun kq v6 w' => ∃ (bs : List Bool) (todo : List Int), bs.length = 6 ∧ Aside0 (impl_below.go l0 kq bs todo = some r) ∧ Aside0 (kq ≤ k) ∧ Aside0 (Kd.Q (Kd.int .i64) 3 w' w.heap.size (fun _ => True) v6 todo) ∧ Aside0 (w'.heap[go]? = some (.cells (arrV bs) 89 (0, 0))) ∧ Aside0 (w'.heap[gr]? = some (.cells (arrV (List.replicate 6 false)) 89 (0, 0))) ∧ Aside0 (Below w.heap.size w w'))
  case atStart =>
    have HB3 : Below w.heap.size w ((((((w2.setCell ⟨go, 0, none⟩ (.bool false)).setCell ⟨go, 1, none⟩ (.bool false)).setCell ⟨go, 2, none⟩ (.bool false)).setCell ⟨go, 3, none⟩ (.bool false)).setCell ⟨go, 4, none⟩ (.bool false)).setCell ⟨go, 5, none⟩ (.bool false)) := below_set (below_set (below_set (below_set (below_set (below_set HB2.out GO.out) GO.out) GO.out) GO.out) GO.out) GO.out
    have BO3 := blk_put (blk_put (blk_put (blk_put (blk_put (blk_put BO.out 0 (.bool false) rfl) 1 (.bool false) rfl) 2 (.bool false) rfl) 3 (.bool false) rfl) 4 (.bool false) rfl) 5 (.bool false) rfl
    have hrn : ∀ (W : World) (i : Nat) (u : Value), (W.setCell ⟨go, i, none⟩ u).heap[gr]? = W.heap[gr]? := fun W i u => Below.heap_setCell _ _ _ gr (Ne.symm NE.out)
    refine ⟨List.replicate 6 false, [a1], rfl, HH, ⟨Nat.le_refl _⟩, ⟨?_⟩, ⟨?_⟩, ⟨?_⟩, ⟨below_alloc HB3 _⟩⟩
    · refine Kd.Q_of_R (Kd.R_of_own ?_ (fun _ _ => trivial))
      have h := World.ownsRow_lit (base := w.heap.size) (e := 3) (size := 1) ((((((w2.setCell ⟨go, 0, none⟩ (.bool false)).setCell ⟨go, 1, none⟩ (.bool false)).setCell ⟨go, 2, none⟩ (.bool false)).setCell ⟨go, 3, none⟩ (.bool false)).setCell ⟨go, 4, none⟩ (.bool false)).setCell ⟨go, 5, none⟩ (.bool false)) #[.int .i64 a1] 1 (below_size HB3) (by decide) rfl
      rw [(by simp [World.setCell] : ((((((w2.setCell ⟨go, 0, none⟩ (.bool false)).setCell ⟨go, 1, none⟩ (.bool false)).setCell ⟨go, 2, none⟩ (.bool false)).setCell ⟨go, 3, none⟩ (.bool false)).setCell ⟨go, 4, none⟩ (.bool false)).setCell ⟨go, 5, none⟩ (.bool false)).heap.size = w2.heap.size)] at h
      exact h
    · exact blk_alloc BO3 _
    · refine blk_alloc ?_ _
      rw [hrn, hrn, hrn, hrn, hrn, hrn]
      exact BR2.out
  case round =>
    obtain ⟨bs, todo, hbl, HG, HK, HQ, BO, BR, HB⟩ := hrel
    cases gk with
    | zero => exact absurd HG.out (by simp [impl_below.go])
    | succ k1 =>
      cases todo with
      | nil =>
        have hg := HG.out
        simp only [impl_below.go] at hg
        obtain rfl := Option.some.inj hg
        obtain ⟨A6, c6, rfl, hc6, hC6⟩ := Kd.Q_reads HQ.out
        have hlen : decide ((([] : List Int).length : Int) > 0) = false := rfl
        obtain ⟨b0, b1, b2, b3, b4, b5, rfl⟩ : ∃ b0 b1 b2 b3 b4 b5, bs = [b0, b1, b2, b3, b4, b5] := by
          match bs, hbl with
          | [b0, b1, b2, b3, b4, b5], _ => exact ⟨b0, b1, b2, b3, b4, b5, rfl⟩
        have hcz0 : wr.cell? ⟨go, 0, none⟩ = some (.bool b0) := (blk_cell BO.out 0).trans rfl
        have hcz1 : wr.cell? ⟨go, 1, none⟩ = some (.bool b1) := (blk_cell BO.out 1).trans rfl
        have hcz2 : wr.cell? ⟨go, 2, none⟩ = some (.bool b2) := (blk_cell BO.out 2).trans rfl
        have hcz3 : wr.cell? ⟨go, 3, none⟩ = some (.bool b3) := (blk_cell BO.out 3).trans rfl
        have hcz4 : wr.cell? ⟨go, 4, none⟩ = some (.bool b4) := (blk_cell BO.out 4).trans rfl
        have hcz5 : wr.cell? ⟨go, 5, none⟩ = some (.bool b5) := (blk_cell BO.out 5).trans rfl
        have hry0 : wr.cell? ⟨gr, 0, none⟩ = some (.bool false) := (blk_cell BR.out 0).trans rfl
        have hry1 : wr.cell? ⟨gr, 1, none⟩ = some (.bool false) := (blk_cell BR.out 1).trans rfl
        have hry2 : wr.cell? ⟨gr, 2, none⟩ = some (.bool false) := (blk_cell BR.out 2).trans rfl
        have hry3 : wr.cell? ⟨gr, 3, none⟩ = some (.bool false) := (blk_cell BR.out 3).trans rfl
        have hry4 : wr.cell? ⟨gr, 4, none⟩ = some (.bool false) := (blk_cell BR.out 4).trans rfl
        have hry5 : wr.cell? ⟨gr, 5, none⟩ = some (.bool false) := (blk_cell BR.out 5).trans rfl
        have hfy0 := blk_frozen BR.out 0
        have hfy1 := blk_frozen BR.out 1
        have hfy2 := blk_frozen BR.out 2
        have hfy3 := blk_frozen BR.out 3
        have hfy4 := blk_frozen BR.out 4
        have hfy5 := blk_frozen BR.out 5
        go_wp2
        refine bodyPost_ret (results_cell_row rfl _ _ gr 89 #[.bool b0, .bool b1, .bool b2, .bool b3, .bool b4, .bool b5] (0, 0) _ rfl (blk_put (cs := #[.bool b0, .bool b1, .bool b2, .bool b3, .bool b4, .bool false]) (blk_put (cs := #[.bool b0, .bool b1, .bool b2, .bool b3, .bool false, .bool false]) (blk_put (cs := #[.bool b0, .bool b1, .bool b2, .bool false, .bool false, .bool false]) (blk_put (cs := #[.bool b0, .bool b1, .bool false, .bool false, .bool false, .bool false]) (blk_put (cs := #[.bool b0, .bool false, .bool false, .bool false, .bool false, .bool false]) (blk_put (cs := #[.bool false, .bool false, .bool false, .bool false, .bool false, .bool false]) BR.out 0 _ rfl) 1 _ rfl) 2 _ rfl) 3 _ rfl) 4 _ rfl) 5 _ rfl) Try.underlying89 rfl (by kernel_rfl)) rfl ?_
        exact ⟨rfl, below_set (below_set (below_set (below_set (below_set (below_set HB.out GR.out) GR.out) GR.out) GR.out) GR.out) GR.out⟩
      | cons a t =>
        have hg := HG.out
        simp only [impl_below.go] at hg
        have htl : t.length + l0.length < 1000000000 := by
          by_cases q : t.length + l0.length < 1000000000
          · exact q
          · rw [if_neg q] at hg
            cases hg
        rw [if_pos htl] at hg
        have HTL := Aside0.mk htl
        have HG1 := Aside0.mk hg
        clear HG hg htl
        obtain ⟨A6, c6, rfl, hc6, hC6⟩ := Kd.Q_reads HQ.out
        have hgt : decide (((a :: t).length : Int) > 0) = true := decide_eq_true (by simp)
        have hgt' : (0 : Int) < ((a :: t).length : Int) := by simp
        obtain ⟨ad, ead, hx⟩ := Kd.at_int hC6 0 (by omega) hgt'
        subst ead
        replace hx : wr.cell? (ad.add 0) = some (.int .i64 a) := hx
        rw [show ad.add 0 = ad by simp [Addr.add]] at hx
        obtain ⟨i0, hi0, _, hsz0, _⟩ := info_parts info3
        have hcut := cut_from (P := Try.prog) 26 3 .i64 Try.underlying26 hi0 1 hsz0 (some ad) (a :: t).length c6 1 (by omega) (by simp; omega)
        have HQ1 := Kd.Q_drop (k := 1) HQ.out (by simp)
        clear HQ
        obtain ⟨V, hV⟩ : ∃ V : Value, V = .slice (if c6 = 1 then some ad else (some ad).map (·.add (1 * 1))) ((a :: t).length - 1) (c6 - 1) := ⟨_, rfl⟩
        replace hcut : ∀ W : World, (Instr.slice 26 (.slice (some ad) (a :: t).length c6) (some (.int .i64 1)) none none).run Try.prog W = .ok V W := by rw [hV]; exact hcut
        replace HQ1 : Aside0 (Kd.Q (Kd.int .i64) 3 wr w.heap.size (fun _ => True) V t) := ⟨by rw [hV]; exact HQ1⟩
        have hlt1 : (0 < (a :: t).length) = True := eq_true (by simp)
        have HN := Aside0.mk hC6
        clear hV hi0 hsz0 hC6
        generalize hL : (a :: t).length = L at hcut hgt hgt' hlt1 hc6
        go_wp2
        clear hx hcut hgt hgt' hlt1 hc6 HN
        go_loopg [6, 23] l0.length (fun gg v6 v23 w' => ∃ (a' b : List S78) (bs : List Bool) (todo : List Int), bs.length = 6 ∧ Aside0 (l0 = a' ++ b) ∧ b.length ≤ gg ∧ v23 = .int .i64 (a'.length : Int) ∧ Aside0 (impl_below.go l0 k1 (b.foldl (impl_below.st a) (bs, todo)).1 (b.foldl (impl_below.st a) (bs, todo)).2 = some r) ∧ Aside0 (Kd.Q (Kd.int .i64) 3 w' w.heap.size (fun _ => True) v6 todo) ∧ Aside0 (w'.heap[go]? = some (.cells (arrV bs) 89 (0, 0))) ∧ Aside0 (w'.heap[gr]? = some (.cells (arrV (List.replicate 6 false)) 89 (0, 0))) ∧ Aside0 (Below w.heap.size w w') ∧ Aside0 (todo.length + b.length < 1000000000))
        case atStart => exact ⟨[], l0, bs, t, hbl, ⟨rfl⟩, Nat.le_refl _, rfl, HG1, HQ1, BO, BR, HB, HTL⟩
        case round =>
          clear HQ1 BO BR HB HG1
          obtain ⟨a', b, bs, todo, hbl, hl, hgg, rfl, HG2, HQ, BO, BR, HB, HT⟩ := hrel
          cases b with
          | nil =>
            have hd : decide ((a'.length : Int) < (l0.length : Int)) = false := decide_eq_false (by rw [hl.out]; simp)
            have hd2 : ((a'.length : Int) < (l0.length : Int)) = False := eq_false (by rw [hl.out]; simp)
            have hd3 : (a'.length < l0.length) = False := eq_false (by rw [hl.out]; simp)
            go_wp2
            go_roundg k1
            case measure => omega
            case rel => exact ⟨bs, todo, hbl, HG2, ⟨by have := HK.out; omega⟩, HQ, BO, BR, HB⟩
          | cons x b =>
            have hlt : (a'.length : Int) < (l0.length : Int) := by rw [hl.out]; simp; omega
            have hd : decide ((a'.length : Int) < (l0.length : Int)) = true := decide_eq_true hlt
            have hxx : rd_T78 l0 (a'.length : Int) = x := by
              unfold rd_T78
              rw [Int.toNat_natCast, hl.out, List.getD_eq_getElem?_getD, List.getElem?_append_right (Nat.le_refl _), Nat.sub_self]
              rfl
            obtain ⟨ad2, e2, hx0, hx1⟩ := at_T78 HR0.out (a'.length : Int) (by omega) hlt
            cases e2
            rw [hxx] at hx0 hx1
            replace hx0 := (HB.out.cell (World.block_lt_of_cell? w _ hx0)).trans hx0
            replace hx1 := (HB.out.cell (World.block_lt_of_cell? w _ hx1)).trans hx1
            have hlt' := eq_true hlt
            simp only [Int.toNat_natCast] at hx0 hx1
            cases gk with
            | zero => exact absurd hgg (by simp)
            | succ g1 =>
            by_cases c0 : x.f0 = a
            · have c0' : (x.f0 == a) = true := beq_iff_eq.2 c0
              have hrole : impl_isRole.f x.f1 = some (decide (0 ≤ x.f1 ∧ x.f1 ≤ 5)) := by
                unfold impl_isRole.f impl_InRange.f
                by_cases h : 0 ≤ x.f1
                · rw [if_pos h]; simp [h]
                · rw [if_neg h]; simp [h]
              by_cases c1 : 0 ≤ x.f1 ∧ x.f1 ≤ 5
              · rw [decide_eq_true c1] at hrole
                have hb0 : (0 ≤ x.f1) = True := eq_true c1.1
                have hb6 : (x.f1 < 6) = True := eq_true (by omega)
                have hj : x.f1.toNat < bs.length := by omega
                have harr : (arrV bs)[x.f1.toNat]? = some (.bool (bs.getD x.f1.toNat false)) := by simp [arrV, List.getD_eq_getElem?_getD, List.getElem?_eq_getElem hj]
                cases hbit : bs.getD x.f1.toNat false with
                | true =>
                  rw [hbit] at harr
                  go_wp2_with (first | ((with_reducible refine gate_dst (N := 9) rfl ?_); refine box_event ?hg (N := 9) ?hd (cs := #[.int .i64 0, .int .i64 0]) (t := 78) ?hr ?_; (case hd => rfl); (case hg => rfl); (case hr => first | (go_simp; done) | (go_simp; rfl)); intro gx hgx w4 hbx hb4; have BX := Aside0.mk hbx; have HQ4 := Aside0.mk (Kd.Q_below HQ.out hb4); have BO4 := Aside0.mk ((hb4.block go (Array.getElem?_eq_some_iff.1 BO.out).1).trans BO.out); have BR4 := Aside0.mk ((hb4.block gr (Array.getElem?_eq_some_iff.1 BR.out).1).trans BR.out); have HB4 := Aside0.mk (below_step HB.out hb4); have GX := Aside0.mk ((by rw [hgx]; exact below_size HB.out : w.heap.size ≤ gx)); have hne1 : gx ≠ go := (by have := (Array.getElem?_eq_some_iff.1 BO.out).1; omega); have hne2 : gx ≠ gr := (by have := (Array.getElem?_eq_some_iff.1 BR.out).1; omega); clear HQ BO BR HB hbx hb4 hgx; have hcx0 : w4.cell? ⟨gx, 0, none⟩ = some (.int .i64 0) := (blk_cell BX.out 0).trans rfl; have hcx1 : w4.cell? ⟨gx, 1, none⟩ = some (.int .i64 0) := (blk_cell BX.out 1).trans rfl; have hfx0 := blk_frozen BX.out 0; have hfx1 := blk_frozen BX.out 1; have hld : w4.cell? ⟨go, x.f1.toNat, none⟩ = some (.bool true) := (blk_cell BO4.out x.f1.toNat).trans harr; have hlf := blk_frozen BO4.out x.f1.toNat) | (go_at_call 70; refine (impl_isRole.calls x.f1 true _ hrole).mono ?_; rintro e w' ⟨rfl, ⟨nd, rfl⟩⟩))
                  go_roundg g1
                  case measure => omega
                  case rel =>
                    have hst : impl_below.st a (bs, todo) x = (bs, todo) := by unfold impl_below.st; rw [if_neg (fun h => by rw [hbit] at h; cases h.2.2)]
                    have hgn := HG2.out
                    rw [List.foldl_cons, hst] at hgn
                    have hlen := Kd.C_max HR0.out
                    refine ⟨a' ++ [x], b, bs, todo, hbl, ⟨by rw [hl.out]; simp⟩, by simp at hgg; omega, ?_, ⟨hgn⟩, ⟨Kd.Q_drewN (Kd.Q_set (Kd.Q_set HQ4.out BX.out (by decide) 0 _) (blk_put BX.out 0 _ rfl) (by decide) 1 _) _⟩, ⟨(Below.heap_setCell _ _ _ go (Ne.symm hne1)).trans ((Below.heap_setCell _ _ _ go (Ne.symm hne1)).trans BO4.out)⟩, ⟨(Below.heap_setCell _ _ _ gr (Ne.symm hne2)).trans ((Below.heap_setCell _ _ _ gr (Ne.symm hne2)).trans BR4.out)⟩, ⟨pw_below_drewN (below_set (below_set HB4.out GX.out) GX.out) _⟩, ⟨by have := HT.out; simp at this; omega⟩⟩
                    rw [List.length_append]
                    unfold wrap64
                    simp
                    omega
                | false =>
                  rw [hbit] at harr
                  have hset : arrV (bs.set x.f1.toNat true) = (arrV bs).setIfInBounds x.f1.toNat (.bool true) := by simp [arrV, List.map_set]
                  have hne0 := NE.out
                  go_wp2_with (first | ((with_reducible refine gate_dst (N := 9) rfl ?_); refine box_event ?hg (N := 9) ?hd (cs := #[.int .i64 0, .int .i64 0]) (t := 78) ?hr ?_; (case hd => rfl); (case hg => rfl); (case hr => first | (go_simp; done) | (go_simp; rfl)); intro gx hgx w4 hbx hb4; have BX := Aside0.mk hbx; have HQ4 := Aside0.mk (Kd.Q_below HQ.out hb4); have BO4 := Aside0.mk ((hb4.block go (Array.getElem?_eq_some_iff.1 BO.out).1).trans BO.out); have BR4 := Aside0.mk ((hb4.block gr (Array.getElem?_eq_some_iff.1 BR.out).1).trans BR.out); have HB4 := Aside0.mk (below_step HB.out hb4); have GX := Aside0.mk ((by rw [hgx]; exact below_size HB.out : w.heap.size ≤ gx)); have hne1 : gx ≠ go := (by have := (Array.getElem?_eq_some_iff.1 BO.out).1; omega); have hne2 : gx ≠ gr := (by have := (Array.getElem?_eq_some_iff.1 BR.out).1; omega); clear HQ BO BR HB hbx hb4 hgx; have hcx0 : w4.cell? ⟨gx, 0, none⟩ = some (.int .i64 0) := (blk_cell BX.out 0).trans rfl; have hcx1 : w4.cell? ⟨gx, 1, none⟩ = some (.int .i64 0) := (blk_cell BX.out 1).trans rfl; have hfx0 := blk_frozen BX.out 0; have hfx1 := blk_frozen BX.out 1; have hld : w4.cell? ⟨go, x.f1.toNat, none⟩ = some (.bool false) := (blk_cell BO4.out x.f1.toNat).trans harr; have hlf := blk_frozen BO4.out x.f1.toNat) | (go_at_call 70; refine (impl_isRole.calls x.f1 true _ hrole).mono ?_; rintro e w' ⟨rfl, ⟨nd, rfl⟩⟩) | ((with_reducible refine gate_builtin (b := .append) (xs := #[.tmp 46, .tmp 49]) rfl ?_); at_builtin; go_loud (refine Kd.Q_append (Kd.int .i64) (w0 := w) w.heap.size rfl (.tmp 46) (.tmp 49) 26 3 (.int .i64 0) 8 rfl Try.underlying26 info3 rfl (by decide) (by omega) u6 todo x.f1 [.int .i64 x.f1] (fun _ => True) (fun _ => False) rfl ?aX ?aP (fun _ hk => hk.elim) ?aF ?aO ?aB ?aS ?aL ?_); (case aX => go_loud (exact (congrArg (fun b => Value.slice (some ⟨b, 0, none⟩) 1 1) (by simp [World.drewN, World.setCell] : w4.heap.size = (((((w4.setCell ⟨gx, 0, none⟩ (.int .i64 a)).setCell ⟨gx, 1, none⟩ (.int .i64 x.f1)).drewN nd).setCell ⟨go, x.f1.toNat, none⟩ (.bool true))).heap.size)))); (case aP => go_loud (exact rfl)); (case aF => go_loud (exact (fun _ _ => trivial))); (case aO => go_loud (exact Kd.Q_set (Kd.Q_drewN (Kd.Q_set (Kd.Q_set HQ4.out BX.out (by decide) 0 _) (blk_put BX.out 0 _ rfl) (by decide) 1 _) _) ((Below.heap_setCell _ _ _ go (Ne.symm hne1)).trans ((Below.heap_setCell _ _ _ go (Ne.symm hne1)).trans BO4.out)) (by decide) _ _)); (case aB => go_loud (exact below_set (pw_below_drewN (below_set (below_set HB4.out GX.out) GX.out) _) GO.out)); (case aS => go_loud (exact below_size (below_set (pw_below_drewN (below_set (below_set HB4.out GX.out) GX.out) _) GO.out))); (case aL => go_loud (have := HT.out; omega)); intro v50 w11 ho hb hg hat; have HQ11 := Aside0.mk ho; have HB11 := Aside0.mk hb; have BO11 : Aside0 (w11.heap[go]? = some (.cells (arrV (bs.set x.f1.toNat true)) 89 (0, 0))) := ⟨by go_loud (refine blk_grown (blk_put (blk_drewN ((Below.heap_setCell _ _ _ go (Ne.symm hne1)).trans ((Below.heap_setCell _ _ _ go (Ne.symm hne1)).trans BO4.out)) _) x.f1.toNat (.bool true) ?b1) hg ?b2; (case b1 => go_loud (exact hset.symm)); (case b2 => go_loud (exact (Kd.Q_ne HQ4.out BO4.out (by decide)))))⟩; have BR11 : Aside0 (w11.heap[gr]? = some (.cells (arrV (List.replicate 6 false)) 89 (0, 0))) := ⟨by go_loud (exact blk_grown ((Below.heap_setCell _ _ _ gr (Ne.symm hne0)).trans (blk_drewN ((Below.heap_setCell _ _ _ gr (Ne.symm hne2)).trans ((Below.heap_setCell _ _ _ gr (Ne.symm hne2)).trans BR4.out)) _)) hg (Kd.Q_ne HQ4.out BR4.out (by decide)))⟩; clear ho hb hg hat))
                  go_roundg g1
                  case measure => omega
                  case rel =>
                    have hst : impl_below.st a (bs, todo) x = (bs.set x.f1.toNat true, todo ++ [x.f1]) := by unfold impl_below.st; rw [if_pos ⟨c0, c1, hbit⟩]
                    have hgn := HG2.out
                    rw [List.foldl_cons, hst] at hgn
                    have hlen := Kd.C_max HR0.out
                    refine ⟨a' ++ [x], b, bs.set x.f1.toNat true, todo ++ [x.f1], by rw [List.length_set]; exact hbl, ⟨by rw [hl.out]; simp⟩, by simp at hgg; omega, ?_, ⟨hgn⟩, HQ11, BO11, BR11, HB11, ⟨by have := HT.out; simp at this ⊢; omega⟩⟩
                    rw [List.length_append]
                    unfold wrap64
                    simp
                    omega
              · rw [decide_eq_false c1] at hrole
                go_wp2_with (first | ((with_reducible refine gate_dst (N := 9) rfl ?_); refine box_event ?hg (N := 9) ?hd (cs := #[.int .i64 0, .int .i64 0]) (t := 78) ?hr ?_; (case hd => rfl); (case hg => rfl); (case hr => first | (go_simp; done) | (go_simp; rfl)); intro gx hgx w4 hbx hb4; have BX := Aside0.mk hbx; have HQ4 := Aside0.mk (Kd.Q_below HQ.out hb4); have BO4 := Aside0.mk ((hb4.block go (Array.getElem?_eq_some_iff.1 BO.out).1).trans BO.out); have BR4 := Aside0.mk ((hb4.block gr (Array.getElem?_eq_some_iff.1 BR.out).1).trans BR.out); have HB4 := Aside0.mk (below_step HB.out hb4); have GX := Aside0.mk ((by rw [hgx]; exact below_size HB.out : w.heap.size ≤ gx)); have hne1 : gx ≠ go := (by have := (Array.getElem?_eq_some_iff.1 BO.out).1; omega); have hne2 : gx ≠ gr := (by have := (Array.getElem?_eq_some_iff.1 BR.out).1; omega); clear HQ BO BR HB hbx hb4 hgx; have hcx0 : w4.cell? ⟨gx, 0, none⟩ = some (.int .i64 0) := (blk_cell BX.out 0).trans rfl; have hcx1 : w4.cell? ⟨gx, 1, none⟩ = some (.int .i64 0) := (blk_cell BX.out 1).trans rfl; have hfx0 := blk_frozen BX.out 0; have hfx1 := blk_frozen BX.out 1) | (go_at_call 70; refine (impl_isRole.calls x.f1 false _ hrole).mono ?_; rintro e w' ⟨rfl, ⟨nd, rfl⟩⟩))
                go_roundg g1
                case measure => omega
                case rel =>
                  have hst : impl_below.st a (bs, todo) x = (bs, todo) := by unfold impl_below.st; rw [if_neg (fun h => c1 h.2.1)]
                  have hgn := HG2.out
                  rw [List.foldl_cons, hst] at hgn
                  have hlen := Kd.C_max HR0.out
                  refine ⟨a' ++ [x], b, bs, todo, hbl, ⟨by rw [hl.out]; simp⟩, by simp at hgg; omega, ?_, ⟨hgn⟩, ⟨Kd.Q_drewN (Kd.Q_set (Kd.Q_set HQ4.out BX.out (by decide) 0 _) (blk_put BX.out 0 _ rfl) (by decide) 1 _) _⟩, ⟨(Below.heap_setCell _ _ _ go (Ne.symm hne1)).trans ((Below.heap_setCell _ _ _ go (Ne.symm hne1)).trans BO4.out)⟩, ⟨(Below.heap_setCell _ _ _ gr (Ne.symm hne2)).trans ((Below.heap_setCell _ _ _ gr (Ne.symm hne2)).trans BR4.out)⟩, ⟨pw_below_drewN (below_set (below_set HB4.out GX.out) GX.out) _⟩, ⟨by have := HT.out; simp at this; omega⟩⟩
                  rw [List.length_append]
                  unfold wrap64
                  simp
                  omega
            · have c0' : (x.f0 == a) = false := beq_eq_false_iff_ne.2 c0
              go_wp2_with (first | ((with_reducible refine gate_dst (N := 9) rfl ?_); refine box_event ?hg (N := 9) ?hd (cs := #[.int .i64 0, .int .i64 0]) (t := 78) ?hr ?_; (case hd => rfl); (case hg => rfl); (case hr => first | (go_simp; done) | (go_simp; rfl)); intro gx hgx w4 hbx hb4; have BX := Aside0.mk hbx; have HQ4 := Aside0.mk (Kd.Q_below HQ.out hb4); have BO4 := Aside0.mk ((hb4.block go (Array.getElem?_eq_some_iff.1 BO.out).1).trans BO.out); have BR4 := Aside0.mk ((hb4.block gr (Array.getElem?_eq_some_iff.1 BR.out).1).trans BR.out); have HB4 := Aside0.mk (below_step HB.out hb4); have GX := Aside0.mk ((by rw [hgx]; exact below_size HB.out : w.heap.size ≤ gx)); have hne1 : gx ≠ go := (by have := (Array.getElem?_eq_some_iff.1 BO.out).1; omega); have hne2 : gx ≠ gr := (by have := (Array.getElem?_eq_some_iff.1 BR.out).1; omega); clear HQ BO BR HB hbx hb4 hgx; have hcx0 : w4.cell? ⟨gx, 0, none⟩ = some (.int .i64 0) := (blk_cell BX.out 0).trans rfl; have hcx1 : w4.cell? ⟨gx, 1, none⟩ = some (.int .i64 0) := (blk_cell BX.out 1).trans rfl; have hfx0 := blk_frozen BX.out 0; have hfx1 := blk_frozen BX.out 1))
              go_roundg g1
              case measure => omega
              case rel =>
                have hst : impl_below.st a (bs, todo) x = (bs, todo) := by unfold impl_below.st; rw [if_neg (fun h => c0 h.1)]
                have hgn := HG2.out
                rw [List.foldl_cons, hst] at hgn
                have hlen := Kd.C_max HR0.out
                refine ⟨a' ++ [x], b, bs, todo, hbl, ⟨by rw [hl.out]; simp⟩, by simp at hgg; omega, ?_, ⟨hgn⟩, ⟨Kd.Q_set (Kd.Q_set HQ4.out BX.out (by decide) 0 _) (blk_put BX.out 0 _ rfl) (by decide) 1 _⟩, ⟨(Below.heap_setCell _ _ _ go (Ne.symm hne1)).trans ((Below.heap_setCell _ _ _ go (Ne.symm hne1)).trans BO4.out)⟩, ⟨(Below.heap_setCell _ _ _ gr (Ne.symm hne2)).trans ((Below.heap_setCell _ _ _ gr (Ne.symm hne2)).trans BR4.out)⟩, ⟨below_set (below_set HB4.out GX.out) GX.out⟩, ⟨by have := HT.out; simp at this; omega⟩⟩
                rw [List.length_append]
                unfold wrap64
                simp
                omega
theorem impl_below.mono_l (l : List S78) : ∀ k bs todo, LeO (impl_below.go l k bs todo) (impl_below.go l (k + 1) bs todo)
  | 0 => fun _ _ r h => by cases h
  | k + 1 => fun bs todo => by
    cases todo with
    | nil => exact LeO.refl _
    | cons a t =>
      rw [impl_below.go, impl_below.go]
      split
      · exact impl_below.mono_l l k _ _
      · exact LeO.none _
theorem impl_below.mono : ∀ a0 a1 k, LeO (impl_below.f k a0 a1) (impl_below.f (k + 1) a0 a1) := fun a0 a1 k => impl_below.mono_l a0 k _ _

/-! ### impl_RolesUnder: function 33 -/
/-- The roles from v on, d of them, that are marked or the role itself. -/
def impl_RolesUnder.g (bs : List Bool) (a : Int) : Nat → Int → List Int → List Int
  | 0, _, out => out
  | d + 1, v, out => impl_RolesUnder.g bs a d (v + 1) (if bs.getD v.toNat false = true ∨ v = a then out ++ [v] else out)
def impl_RolesUnder.f (k : Nat) (l0 : List S78) (a1 : Int) : Option (List Int) := if 0 ≤ a1 ∧ a1 ≤ 5 then (impl_below.f k l0 a1).bind fun bs => if bs.length = 6 then some (impl_RolesUnder.g bs a1 6 0 []) else none else some []
theorem impl_RolesUnder.mono : ∀ a0 a1 k, LeO (impl_RolesUnder.f k a0 a1) (impl_RolesUnder.f (k + 1) a0 a1) := by
  intro l a k r h
  unfold impl_RolesUnder.f at h ⊢
  split at h
  · rename_i c
    rw [if_pos c]
    cases hb : impl_below.f k l a with
    | none => rw [hb] at h; cases h
    | some bs =>
      rw [hb] at h
      rw [impl_below.mono l a k _ hb]
      exact h
  · rename_i c
    rw [if_neg c]
    exact h
set_option maxHeartbeats 8000000 in
set_option maxRecDepth 100000 in
theorem impl_RolesUnder.calls (k : Nat) (A0 : Option Addr) (c0 : Nat) (l0 : List S78) (a1 : Int) (r : List Int) (w : World) (hr0 : Kd.C k78 w A0 l0.length l0) (hc0 : l0.length ≤ c0) (h : impl_RolesUnder.f k l0 a1 = some r) :
    Calls Try.prog 33 #[.slice A0 l0.length c0, .int .i64 a1] w fun e w' => ∃ v0_ : Value, e = .returned (v0_) ∧ Kd.R (Kd.int .i64) 3 w' w.heap.size (fun _ => True) v0_ r ∧ Below w.heap.size w w' := by
  have HR0 := Aside0.mk hr0
  have HC0 := Aside0.mk hc0
  clear hr0 hc0
  have HB := Aside0.mk (Below.refl w.heap.size w)
  have hrole : impl_isRole.f a1 = some (decide (0 ≤ a1 ∧ a1 ≤ 5)) := by
    unfold impl_isRole.f impl_InRange.f
    by_cases h : 0 ≤ a1
    · rw [if_pos h]; simp [h]
    · rw [if_neg h]; simp [h]
  unfold impl_RolesUnder.f at h
  by_cases c1 : 0 ≤ a1 ∧ a1 ≤ 5
  · rw [if_pos c1] at h
    rw [decide_eq_true c1] at hrole
    cases hq : impl_below.f k l0 a1 with
    | none => rw [hq] at h; cases h
    | some bs =>
    rw [hq, Option.bind_some] at h
    by_cases hbl : bs.length = 6
    · rw [if_pos hbl] at h
      obtain ⟨b0, b1, b2, b3, b4, b5, rfl⟩ : ∃ b0 b1 b2 b3 b4 b5, bs = [b0, b1, b2, b3, b4, b5] := by
        match bs, hbl with
        | [b0, b1, b2, b3, b4, b5], _ => exact ⟨b0, b1, b2, b3, b4, b5, rfl⟩
      have HH := Aside0.mk (Option.some.inj h)
      have HQ := Aside0.mk hq
      clear h hq hbl c1
      go_enter Try.func33, Try.ntmps33
      go_wp2_with (first | ((with_reducible refine gate_dst (N := 8) rfl ?_); refine Kd.R_lit (Kd.int .i64) _ 3 ?hg (N := 8) ?hd (xs := ([] : List Int)) (inner := []) (ok := fun _ => True) (okp := fun _ => True) ?hr ?hp (fun _ hk => hk) trivial (Below.refl _ _) (Nat.le_refl _) (by simp) ?_; (case hd => rfl); (case hg => rfl); (case hr => first | (go_simp; done) | (go_simp; rfl)); (case hp => exact (Reps.none _ _)); intro v123 w2 ho3 hb hg_ hnew_; clear hg_ hnew_; have n0_ := Aside0.mk (Kd.R_lower ho3 (below_size (by repeat (first | (with_reducible first | exact HB.out | apply below_alloc | apply pw_below_drewN | apply below_drew1) | exact HB.out)))); have n1_ := Aside0.mk (below_step (by repeat (first | (with_reducible first | exact HB.out | apply below_alloc | apply pw_below_drewN | apply below_drew1) | exact HB.out)) hb); clear HB; have HO := n0_; have HB := n1_; clear n0_ n1_; clear hb ho3) | (go_at_call 70; refine (impl_isRole.calls a1 true _ hrole).mono ?_; rintro e w' ⟨rfl, ⟨nd, rfl⟩⟩) | (go_at_call 71; refine (impl_below.calls k A0 c0 l0 a1 [b0, b1, b2, b3, b4, b5] _ (Kd.C_below HR0.out (by repeat (first | (with_reducible first | exact HB.out | apply below_alloc | apply pw_below_drewN | apply below_drew1) | exact HB.out))) HC0.out HQ.out).mono ?_; rintro e w10 ⟨rfl, hb'⟩; have HB10 := Aside0.mk (below_step (by repeat (first | (with_reducible first | exact HB.out | apply below_alloc | apply pw_below_drewN | apply below_drew1) | exact HB.out)) hb'); have HO10 := Aside0.mk (Kd.R_below (by (with_reducible repeat (first | apply Kd.R_alloc | apply Kd.R_drewN | apply Kd.R_drew)); exact HO.out) hb'); clear hb'))
      clear HB HO
      obtain ⟨arr, harr⟩ : ∃ arr, arr = arrV [b0, b1, b2, b3, b4, b5] := ⟨_, rfl⟩
      rw [← harr]
      have HARR := Aside0.mk harr
      clear harr
      go_loopg [5, 16] 6 (fun kq v5 v16 w' => ∃ (x : List Int) (v : Int), v16 = .int .i64 v ∧ Aside0 (impl_RolesUnder.g [b0, b1, b2, b3, b4, b5] a1 kq v x = r) ∧ Aside0 (v = 6 - (kq : Int) ∧ kq ≤ 6) ∧ Aside0 (Kd.R (Kd.int .i64) 3 w' w.heap.size (fun _ => True) v5 x) ∧ Aside0 (Below w.heap.size w w') ∧ Aside0 (x.length ≤ 6 - kq))
      case atStart => exact ⟨[], 0, rfl, HH, ⟨by omega⟩, HO10, HB10, ⟨by simp⟩⟩
      case round =>
        clear HB10 HO10 HH
        obtain ⟨x, v, rfl, HG, HV, HO, HB, HXL⟩ := hrel
        cases gk with
        | zero =>
          have hv : decide (v < 6) = false := decide_eq_false (by have := HV.out; omega)
          go_wp2
          go_ret
          have hg := HG.out
          simp only [impl_RolesUnder.g] at hg
          subst hg
          exact ⟨_, rfl, HO.out, HB.out⟩
        | succ k1 =>
          have hv : decide (v < 6) = true := decide_eq_true (by have := HV.out; omega)
          have hw : IntKind.i64.wrap (v + 1) = v + 1 := by rw [IntKind.wrap_i64]; have := HV.out; omega
          have hg := HG.out
          clear HG
          simp only [impl_RolesUnder.g] at hg
          have hix : ∀ W : World, (Instr.index 89 (.agg arr) (.int .i64 v)).run Try.prog W = .ok (.bool ([b0, b1, b2, b3, b4, b5].getD v.toNat false)) W := by
            intro W
            rw [HARR.out]
            have hv' := HV.out
            have : v = 0 ∨ v = 1 ∨ v = 2 ∨ v = 3 ∨ v = 4 ∨ v = 5 := by omega
            rcases this with rfl | rfl | rfl | rfl | rfl | rfl <;> (simp [Instr.index, run_underlying Try.underlying89, asIntOf, arrV, go_sem]; done)
          generalize [b0, b1, b2, b3, b4, b5].getD v.toNat false = bb at hix hg
          cases bb with
          | true =>
            rw [if_pos (.inl rfl)] at hg
            have HG := Aside0.mk hg
            clear hg
            go_wp2_with (first | ((with_reducible refine gate_builtin (b := .append) (xs := #[.tmp 26, .tmp 28]) rfl ?_); at_builtin; refine Kd.R_append (Kd.int .i64) (w0 := w) w.heap.size rfl (.tmp 26) (.tmp 28) 26 3 (.int .i64 0) 8 rfl Try.underlying26 info3 rfl (by decide) (by omega) u5 x v [.int .i64 v] (fun _ => True) (fun _ => False) rfl rfl ?aP (fun _ hk => hk.elim) ?aF ?aO ?aB ?aS ?aL ?_; (case aP => exact rfl); (case aF => exact (fun _ _ => trivial)); (case aO => exact HO.out); (case aB => exact HB.out); (case aS => exact (below_size HB.out)); (case aL => have := HXL.out; omega); intro v127 w11 ho hb hg hat; have HB11 := Aside0.mk hb; have HO11 := Aside0.mk ho; clear ho hb hg hat))
            go_roundg k1
            case measure => omega
            case rel => exact ⟨x ++ [v], v + 1, (by first | rfl | go_num | (simp [*]; done)), HG, ⟨by have := HV.out; omega⟩, HO11, HB11, ⟨by have := HXL.out; rw [List.length_append]; simp; have := HV.out; omega⟩⟩
          | false =>
            by_cases he : v = a1
            · rw [if_pos (.inr he)] at hg
              have HG := Aside0.mk hg
              clear hg
              have he' : (v == a1) = true := beq_iff_eq.2 he
              clear he
              go_wp2_with (first | ((with_reducible refine gate_builtin (b := .append) (xs := #[.tmp 26, .tmp 28]) rfl ?_); at_builtin; refine Kd.R_append (Kd.int .i64) (w0 := w) w.heap.size rfl (.tmp 26) (.tmp 28) 26 3 (.int .i64 0) 8 rfl Try.underlying26 info3 rfl (by decide) (by omega) u5 x v [.int .i64 v] (fun _ => True) (fun _ => False) rfl rfl ?aP (fun _ hk => hk.elim) ?aF ?aO ?aB ?aS ?aL ?_; (case aP => exact rfl); (case aF => exact (fun _ _ => trivial)); (case aO => exact HO.out); (case aB => exact HB.out); (case aS => exact (below_size HB.out)); (case aL => have := HXL.out; omega); intro v127 w11 ho hb hg hat; have HB11 := Aside0.mk hb; have HO11 := Aside0.mk ho; clear ho hb hg hat))
              go_roundg k1
              case measure => omega
              case rel => exact ⟨x ++ [v], v + 1, (by first | rfl | go_num | (simp [*]; done)), HG, ⟨by have := HV.out; omega⟩, HO11, HB11, ⟨by have := HXL.out; rw [List.length_append]; simp; have := HV.out; omega⟩⟩
            · rw [if_neg (by rintro (h | h); exact Bool.noConfusion h; exact he h)] at hg
              have HG := Aside0.mk hg
              clear hg
              have he' : (v == a1) = false := beq_eq_false_iff_ne.2 he
              clear he
              go_wp2
              go_roundg k1
              case measure => omega
              case rel => exact ⟨x, v + 1, (by first | rfl | go_num | (simp [*]; done)), HG, ⟨by have := HV.out; omega⟩, HO, HB, ⟨by have := HXL.out; omega⟩⟩
    · rw [if_neg hbl] at h
      cases h
  · rw [if_neg c1] at h
    rw [decide_eq_false c1] at hrole
    obtain rfl := Option.some.inj h
    clear h
    go_enter Try.func33, Try.ntmps33
    go_wp2_with (first | ((with_reducible refine gate_dst (N := 8) rfl ?_); refine Kd.R_lit (Kd.int .i64) _ 3 ?hg (N := 8) ?hd (xs := ([] : List Int)) (inner := []) (ok := fun _ => True) (okp := fun _ => True) ?hr ?hp (fun _ hk => hk) trivial (Below.refl _ _) (Nat.le_refl _) (by simp) ?_; (case hd => rfl); (case hg => rfl); (case hr => first | (go_simp; done) | (go_simp; rfl)); (case hp => exact (Reps.none _ _)); intro v123 w2 ho3 hb hg_ hnew_; clear hg_ hnew_; have n0_ := Aside0.mk (Kd.R_lower ho3 (below_size (by repeat (first | (with_reducible first | exact HB.out | apply below_alloc | apply pw_below_drewN | apply below_drew1) | exact HB.out)))); have n1_ := Aside0.mk (below_step (by repeat (first | (with_reducible first | exact HB.out | apply below_alloc | apply pw_below_drewN | apply below_drew1) | exact HB.out)) hb); clear HB; have HO := n0_; have HB := n1_; clear n0_ n1_; clear hb ho3) | (go_at_call 70; refine (impl_isRole.calls a1 false _ hrole).mono ?_; rintro e w' ⟨rfl, ⟨nd, rfl⟩⟩))
    go_ret
    exact ⟨_, rfl, by (with_reducible repeat (first | apply Kd.R_alloc | apply Kd.R_drewN | apply Kd.R_drew)); exact HO.out, by repeat (first | (with_reducible first | exact HB.out | apply below_alloc | apply pw_below_drewN | apply below_drew1) | exact HB.out)⟩

/-! ### laws_FnExactRolesUnder: function 6 -/
def laws_FnExactRolesUnder.j0 : Nat → List (S80) → Int → List Int → List Int → Bool → Option (Bool)
  | 0, _, _, _, _, _ => none
  | k + 1, x0, x1, x6, x8, x46 => if x46 = true then (some false) else ((laws_markIntS.f k x8 1).bind fun bt164 => ((laws_heldIntS.f k bt164.2 1).bind fun t166 => (if t166 < 0 then (some false) else (if t166 = bt164.1 then ((laws_toIncludesS.f k x0).bind fun t167 => ((impl_RolesUnder.f k t167 x1).bind fun t170 => ((laws_eqIntS.f k t170 x6).bind fun t173 => (if t173 = true then ((laws_heldIntS.f k bt164.2 1).bind fun t174 => (if t174 < 0 then (some false) else (if t174 = bt164.1 then (some true) else (some false)))) else (some false))))) else (some false)))))
def laws_FnExactRolesUnder.f (k : Nat) (l0 : List (S80)) (a1 : Int) : Option (Bool) := (laws_szIncludesS.f l0 1048576).bind fun t143 => (if t143 < 0 then (some true) else ((laws_toIncludesS.f k l0).bind fun t144 => ((spec_RolesUnder.f k t144 a1).bind fun t147 => ((laws_toIncludesS.f k l0).bind fun t150 => ((impl_RolesUnder.f k t150 a1).bind fun t153 => ((laws_eqIntS.f k t153 t147).bind fun t156 => (if t156 = true then ((laws_toIncludesS.f k l0).bind fun t157 => ((laws_eqIncludesS.f k t150 t157).bind fun t160 => (if t160 = true then ((laws_markIncludesS.f k t150 1).bind fun bt161 => (if bt161.1 < 0 then (laws_FnExactRolesUnder.j0 k l0 a1 t147 t153 true) else ((laws_eqIntS.f k t153 t147).bind fun t163 => (laws_FnExactRolesUnder.j0 k l0 a1 t147 t153 (!t163))))) else (some false)))) else (some false))))))))
theorem laws_FnExactRolesUnder.mono_l : ∀ k, (∀ y0 y1 y2 y3 y4, LeO (laws_FnExactRolesUnder.j0 k y0 y1 y2 y3 y4) (laws_FnExactRolesUnder.j0 (k + 1) y0 y1 y2 y3 y4))
  | 0 => fun _ _ _ _ _ r h => by simp [laws_FnExactRolesUnder.j0] at h
  | k + 1 => by
    have ih0 := laws_FnExactRolesUnder.mono_l k
    · intro y0 y1 y2 y3 y4
      unfold laws_FnExactRolesUnder.j0
      repeat' first
      | (with_reducible exact ih0 _ _ _ _ _)
      | (with_reducible exact impl_RolesUnder.mono _ _ _)
      | (with_reducible exact laws_eqIncludesS.mono _ _ _)
      | (with_reducible exact laws_eqIntS.mono _ _ _)
      | (with_reducible exact laws_heldIntS.mono _ _ _)
      | (with_reducible exact laws_markIncludesS.mono _ _ _)
      | (with_reducible exact laws_markIntS.mono _ _ _)
      | (with_reducible exact laws_toIncludesS.mono _ _)
      | (with_reducible exact spec_RolesUnder.mono _ _ _)
      | (with_reducible exact LeO.refl _)
      | (with_reducible exact LeO.none _)
      | (with_reducible refine LeO.ite ?_ ?_)
      | (with_reducible refine LeO.bind ?_ (fun _ => ?_))
      | exact ih0 _ _ _ _ _
      | exact impl_RolesUnder.mono _ _ _
      | exact laws_eqIncludesS.mono _ _ _
      | exact laws_eqIntS.mono _ _ _
      | exact laws_heldIntS.mono _ _ _
      | exact laws_markIncludesS.mono _ _ _
      | exact laws_markIntS.mono _ _ _
      | exact laws_toIncludesS.mono _ _
      | exact spec_RolesUnder.mono _ _ _
      | exact LeO.none _
      | refine LeO.ite ?_ ?_
      | refine LeO.bind ?_ (fun _ => ?_)
theorem laws_FnExactRolesUnder.mono : ∀ a0 a1 k, LeO (laws_FnExactRolesUnder.f k a0 a1) (laws_FnExactRolesUnder.f (k + 1) a0 a1) := by
  intro a0 a1 k
  have ih0 := laws_FnExactRolesUnder.mono_l k
  unfold laws_FnExactRolesUnder.f
  repeat' first
      | (with_reducible exact ih0 _ _ _ _ _)
      | (with_reducible exact impl_RolesUnder.mono _ _ _)
      | (with_reducible exact laws_eqIncludesS.mono _ _ _)
      | (with_reducible exact laws_eqIntS.mono _ _ _)
      | (with_reducible exact laws_heldIntS.mono _ _ _)
      | (with_reducible exact laws_markIncludesS.mono _ _ _)
      | (with_reducible exact laws_markIntS.mono _ _ _)
      | (with_reducible exact laws_toIncludesS.mono _ _)
      | (with_reducible exact spec_RolesUnder.mono _ _ _)
      | (with_reducible exact LeO.refl _)
      | (with_reducible exact LeO.none _)
      | (with_reducible refine LeO.ite ?_ ?_)
      | (with_reducible refine LeO.bind ?_ (fun _ => ?_))
      | exact ih0 _ _ _ _ _
      | exact impl_RolesUnder.mono _ _ _
      | exact laws_eqIncludesS.mono _ _ _
      | exact laws_eqIntS.mono _ _ _
      | exact laws_heldIntS.mono _ _ _
      | exact laws_markIncludesS.mono _ _ _
      | exact laws_markIntS.mono _ _ _
      | exact laws_toIncludesS.mono _ _
      | exact spec_RolesUnder.mono _ _ _
      | exact LeO.none _
      | refine LeO.ite ?_ ?_
      | refine LeO.bind ?_ (fun _ => ?_)
set_option maxHeartbeats 8000000 in
set_option maxRecDepth 100000 in
theorem laws_FnExactRolesUnder.calls (k : Nat) (A0 : Option Addr) (c0 : Nat) (l0 : List (S80)) (a1 : Int) (r : Bool) (w : World) (hr0 : Kd.C k80 w A0 l0.length l0) (hc0 : l0.length ≤ c0) (h : laws_FnExactRolesUnder.f k l0 a1 = some r) (hr_ : Aside0 (r = true)) :
    Calls Try.prog 6 #[.slice A0 l0.length c0, .int .i64 a1] w fun e w' => e = .returned (.bool r) ∧ Below w.heap.size w w' := by
  have HR0 := Aside0.mk hr0
  have HC0 := Aside0.mk hc0
  clear hr0 hc0
  have HB := Aside0.mk (Below.refl w.heap.size w)
  have H : ((laws_szIncludesS.f l0 1048576).bind fun t143 => (if t143 < 0 then (some true) else ((laws_toIncludesS.f k l0).bind fun t144 => ((spec_RolesUnder.f k t144 a1).bind fun t147 => ((laws_toIncludesS.f k l0).bind fun t150 => ((impl_RolesUnder.f k t150 a1).bind fun t153 => ((laws_eqIntS.f k t153 t147).bind fun t156 => (if t156 = true then ((laws_toIncludesS.f k l0).bind fun t157 => ((laws_eqIncludesS.f k t150 t157).bind fun t160 => (if t160 = true then ((laws_markIncludesS.f k t150 1).bind fun bt161 => (if bt161.1 < 0 then (laws_FnExactRolesUnder.j0 k l0 a1 t147 t153 true) else ((laws_eqIntS.f k t153 t147).bind fun t163 => (laws_FnExactRolesUnder.j0 k l0 a1 t147 t153 (!t163))))) else (some false)))) else (some false))))))))) = some r := h
  clear h
  replace H := Option.bind_eq_some_iff.mp H
  obtain ⟨t143, A30, H⟩ := H
  replace H : (if t143 < 0 then (some true) else ((laws_toIncludesS.f k l0).bind fun t144 => ((spec_RolesUnder.f k t144 a1).bind fun t147 => ((laws_toIncludesS.f k l0).bind fun t150 => ((impl_RolesUnder.f k t150 a1).bind fun t153 => ((laws_eqIntS.f k t153 t147).bind fun t156 => (if t156 = true then ((laws_toIncludesS.f k l0).bind fun t157 => ((laws_eqIncludesS.f k t150 t157).bind fun t160 => (if t160 = true then ((laws_markIncludesS.f k t150 1).bind fun bt161 => (if bt161.1 < 0 then (laws_FnExactRolesUnder.j0 k l0 a1 t147 t153 true) else ((laws_eqIntS.f k t153 t147).bind fun t163 => (laws_FnExactRolesUnder.j0 k l0 a1 t147 t153 (!t163))))) else (some false)))) else (some false)))))))) = some r := H
  have A3 := Aside0.mk A30
  clear A30
  by_cases c4 : t143 < 0
  · rw [if_pos c4] at H
    have c4b0 : decide (t143 < 0) = true := decide_eq_true c4
    clear c4
    obtain rfl := Option.some.inj H
    go_enter Try.func6, Try.ntmps6
    go_wp2_with (first | ((with_reducible refine gate_callee (f := 15) rfl ?_); refine goesL_ (some 15) rfl rfl Try.func15 (by kernel_rfl) rfl #[.slice A0 l0.length c0, .int .i64 1048576] rfl (by (try simp only [List.map_toArray, List.map_cons, List.map_nil]); first | done | rfl | (simp only [List.length_drop, List.length_take]; rfl)) ?_; (with_reducible refine (laws_szIncludesS.calls _ _ l0 1048576 t143 _ ?side1 ?side2 A3.out).mono ?_); (case side1 => repeat (first | exact HR0.out | (with_reducible refine Kd.C_alloc ?_ _) | (with_reducible refine Kd.C_drewN ?_ _) | (with_reducible refine Kd.C_drew ?_))); (case side2 => exact HC0.out); rintro e w' ⟨rfl, ⟨nd, rfl⟩⟩; refine ⟨_, rfl, ?_⟩))
    go_ret
    exact ⟨by first | rfl | (simp [errW_none, errW_some] <;> rfl) | (simp [*, errW_none, errW_some] <;> rfl), by repeat (first | (with_reducible first | exact HB.out | apply below_alloc | apply pw_below_drewN | apply below_drew1) | exact HB.out)⟩
  · rw [if_neg c4] at H
    have c4b0 : decide (t143 < 0) = false := decide_eq_false c4
    clear c4
    replace H := Option.bind_eq_some_iff.mp H
    obtain ⟨t144, A50, H⟩ := H
    replace H : ((spec_RolesUnder.f k t144 a1).bind fun t147 => ((laws_toIncludesS.f k l0).bind fun t150 => ((impl_RolesUnder.f k t150 a1).bind fun t153 => ((laws_eqIntS.f k t153 t147).bind fun t156 => (if t156 = true then ((laws_toIncludesS.f k l0).bind fun t157 => ((laws_eqIncludesS.f k t150 t157).bind fun t160 => (if t160 = true then ((laws_markIncludesS.f k t150 1).bind fun bt161 => (if bt161.1 < 0 then (laws_FnExactRolesUnder.j0 k l0 a1 t147 t153 true) else ((laws_eqIntS.f k t153 t147).bind fun t163 => (laws_FnExactRolesUnder.j0 k l0 a1 t147 t153 (!t163))))) else (some false)))) else (some false)))))) = some r := H
    have A5 := Aside0.mk A50
    clear A50
    replace H := Option.bind_eq_some_iff.mp H
    obtain ⟨t147, A60, H⟩ := H
    replace H : ((laws_toIncludesS.f k l0).bind fun t150 => ((impl_RolesUnder.f k t150 a1).bind fun t153 => ((laws_eqIntS.f k t153 t147).bind fun t156 => (if t156 = true then ((laws_toIncludesS.f k l0).bind fun t157 => ((laws_eqIncludesS.f k t150 t157).bind fun t160 => (if t160 = true then ((laws_markIncludesS.f k t150 1).bind fun bt161 => (if bt161.1 < 0 then (laws_FnExactRolesUnder.j0 k l0 a1 t147 t153 true) else ((laws_eqIntS.f k t153 t147).bind fun t163 => (laws_FnExactRolesUnder.j0 k l0 a1 t147 t153 (!t163))))) else (some false)))) else (some false))))) = some r := H
    have A6 := Aside0.mk A60
    clear A60
    replace H := Option.bind_eq_some_iff.mp H
    obtain ⟨t150, A70, H⟩ := H
    replace H : ((impl_RolesUnder.f k t150 a1).bind fun t153 => ((laws_eqIntS.f k t153 t147).bind fun t156 => (if t156 = true then ((laws_toIncludesS.f k l0).bind fun t157 => ((laws_eqIncludesS.f k t150 t157).bind fun t160 => (if t160 = true then ((laws_markIncludesS.f k t150 1).bind fun bt161 => (if bt161.1 < 0 then (laws_FnExactRolesUnder.j0 k l0 a1 t147 t153 true) else ((laws_eqIntS.f k t153 t147).bind fun t163 => (laws_FnExactRolesUnder.j0 k l0 a1 t147 t153 (!t163))))) else (some false)))) else (some false)))) = some r := H
    have A7 := Aside0.mk A70
    clear A70
    replace H := Option.bind_eq_some_iff.mp H
    obtain ⟨t153, A80, H⟩ := H
    replace H : ((laws_eqIntS.f k t153 t147).bind fun t156 => (if t156 = true then ((laws_toIncludesS.f k l0).bind fun t157 => ((laws_eqIncludesS.f k t150 t157).bind fun t160 => (if t160 = true then ((laws_markIncludesS.f k t150 1).bind fun bt161 => (if bt161.1 < 0 then (laws_FnExactRolesUnder.j0 k l0 a1 t147 t153 true) else ((laws_eqIntS.f k t153 t147).bind fun t163 => (laws_FnExactRolesUnder.j0 k l0 a1 t147 t153 (!t163))))) else (some false)))) else (some false))) = some r := H
    have A8 := Aside0.mk A80
    clear A80
    replace H := Option.bind_eq_some_iff.mp H
    obtain ⟨t156, A90, H⟩ := H
    replace H : (if t156 = true then ((laws_toIncludesS.f k l0).bind fun t157 => ((laws_eqIncludesS.f k t150 t157).bind fun t160 => (if t160 = true then ((laws_markIncludesS.f k t150 1).bind fun bt161 => (if bt161.1 < 0 then (laws_FnExactRolesUnder.j0 k l0 a1 t147 t153 true) else ((laws_eqIntS.f k t153 t147).bind fun t163 => (laws_FnExactRolesUnder.j0 k l0 a1 t147 t153 (!t163))))) else (some false)))) else (some false)) = some r := H
    have A9 := Aside0.mk A90
    clear A90
    by_cases c10 : t156 = true
    · subst c10
      have H1 : ((laws_toIncludesS.f k l0).bind fun t157 => ((laws_eqIncludesS.f k t150 t157).bind fun t160 => (if t160 = true then ((laws_markIncludesS.f k t150 1).bind fun bt161 => (if bt161.1 < 0 then (laws_FnExactRolesUnder.j0 k l0 a1 t147 t153 true) else ((laws_eqIntS.f k t153 t147).bind fun t163 => (laws_FnExactRolesUnder.j0 k l0 a1 t147 t153 (!t163))))) else (some false)))) = some r := by rw [if_pos rfl] at H; exact H
      clear H
      have H := H1
      clear H1
      replace H := Option.bind_eq_some_iff.mp H
      obtain ⟨t157, A110, H⟩ := H
      replace H : ((laws_eqIncludesS.f k t150 t157).bind fun t160 => (if t160 = true then ((laws_markIncludesS.f k t150 1).bind fun bt161 => (if bt161.1 < 0 then (laws_FnExactRolesUnder.j0 k l0 a1 t147 t153 true) else ((laws_eqIntS.f k t153 t147).bind fun t163 => (laws_FnExactRolesUnder.j0 k l0 a1 t147 t153 (!t163))))) else (some false))) = some r := H
      have A11 := Aside0.mk A110
      clear A110
      replace H := Option.bind_eq_some_iff.mp H
      obtain ⟨t160, A120, H⟩ := H
      replace H : (if t160 = true then ((laws_markIncludesS.f k t150 1).bind fun bt161 => (if bt161.1 < 0 then (laws_FnExactRolesUnder.j0 k l0 a1 t147 t153 true) else ((laws_eqIntS.f k t153 t147).bind fun t163 => (laws_FnExactRolesUnder.j0 k l0 a1 t147 t153 (!t163))))) else (some false)) = some r := H
      have A12 := Aside0.mk A120
      clear A120
      by_cases c13 : t160 = true
      · subst c13
        have H1 : ((laws_markIncludesS.f k t150 1).bind fun bt161 => (if bt161.1 < 0 then (laws_FnExactRolesUnder.j0 k l0 a1 t147 t153 true) else ((laws_eqIntS.f k t153 t147).bind fun t163 => (laws_FnExactRolesUnder.j0 k l0 a1 t147 t153 (!t163))))) = some r := by rw [if_pos rfl] at H; exact H
        clear H
        have H := H1
        clear H1
        replace H := Option.bind_eq_some_iff.mp H
        obtain ⟨⟨t161, t162⟩, A140, H⟩ := H
        replace H : (if t161 < 0 then (laws_FnExactRolesUnder.j0 k l0 a1 t147 t153 true) else ((laws_eqIntS.f k t153 t147).bind fun t163 => (laws_FnExactRolesUnder.j0 k l0 a1 t147 t153 (!t163)))) = some r := H
        have A14 := Aside0.mk A140
        clear A140
        have HC15 := Aside0.mk H
        clear H
        go_enter Try.func6, Try.ntmps6
        go_upto_region 14 with (first | ((with_reducible refine gate_callee (f := 15) rfl ?_); refine goesL_ (some 15) rfl rfl Try.func15 (by kernel_rfl) rfl #[.slice A0 l0.length c0, .int .i64 1048576] rfl (by (try simp only [List.map_toArray, List.map_cons, List.map_nil]); first | done | rfl | (simp only [List.length_drop, List.length_take]; rfl)) ?_; (with_reducible refine (laws_szIncludesS.calls _ _ l0 1048576 t143 _ ?side1 ?side2 A3.out).mono ?_); (case side1 => repeat (first | exact HR0.out | (with_reducible refine Kd.C_alloc ?_ _) | (with_reducible refine Kd.C_drewN ?_ _) | (with_reducible refine Kd.C_drew ?_))); (case side2 => exact HC0.out); rintro e w' ⟨rfl, ⟨nd, rfl⟩⟩; refine ⟨_, rfl, ?_⟩) | ((with_reducible refine gate_callee (f := 18) rfl ?_); refine goesL_ (some 19) rfl rfl Try.func18 (by kernel_rfl) rfl #[.slice A0 l0.length c0] rfl (by (try simp only [List.map_toArray, List.map_cons, List.map_nil]); first | done | rfl | (simp only [List.length_drop, List.length_take]; rfl)) ?_; (with_reducible refine (laws_toIncludesS.calls k _ _ l0 t144 _ ?side1 ?side2 A5.out).mono ?_); (case side1 => repeat (first | exact HR0.out | (with_reducible refine Kd.C_alloc ?_ _) | (with_reducible refine Kd.C_drewN ?_ _) | (with_reducible refine Kd.C_drew ?_))); (case side2 => exact HC0.out); rintro e w16 ⟨v145, rfl, ho0, hb⟩; refine ⟨_, rfl, ?_⟩; have n0_ := Aside0.mk (Kd.R_lower ho0 (below_size (by repeat (first | (with_reducible first | exact HB.out | apply below_alloc | apply pw_below_drewN | apply below_drew1) | exact HB.out)))); have n1_ := Aside0.mk (below_step (by repeat (first | (with_reducible first | exact HB.out | apply below_alloc | apply pw_below_drewN | apply below_drew1) | exact HB.out)) hb); clear HB; have HO146 := n0_; have HB := n1_; clear n0_ n1_; (try clear hb); (try clear hb2); (try clear hk); (try clear hi); (try clear ho0); obtain ⟨Ao17, co17, eo17⟩ := Kd.R_slice HO146.out; subst eo17) | ((with_reducible refine gate_callee (f := 32) rfl ?_); refine goesL_ (some 21) rfl rfl Try.func32 (by kernel_rfl) rfl #[.slice Ao17 t144.length co17, .int .i64 a1] rfl (by (try simp only [List.map_toArray, List.map_cons, List.map_nil]); first | done | rfl | (simp only [List.length_drop, List.length_take]; rfl)) ?_; (with_reducible refine (spec_RolesUnder.calls k _ _ t144 a1 t147 _ ?side1 ?side2 A6.out).mono ?_); (case side1 => repeat (first | exact (Kd.R_reads' HO146.out).2.2 | (with_reducible refine Kd.C_alloc ?_ _) | (with_reducible refine Kd.C_drewN ?_ _) | (with_reducible refine Kd.C_drew ?_))); (case side2 => exact (Kd.R_reads' HO146.out).2.1); rintro e w18 ⟨v148, rfl, ho0, hb⟩; refine ⟨_, rfl, ?_⟩; have n0_ := Aside0.mk (Kd.R_below (by (with_reducible repeat (first | apply Kd.R_alloc | apply Kd.R_drewN | apply Kd.R_drew)); exact HO146.out) hb); have n1_ := Aside0.mk (Kd.R_lower ho0 (below_size (by repeat (first | (with_reducible first | exact HB.out | apply below_alloc | apply pw_below_drewN | apply below_drew1) | exact HB.out)))); have n2_ := Aside0.mk (below_step (by repeat (first | (with_reducible first | exact HB.out | apply below_alloc | apply pw_below_drewN | apply below_drew1) | exact HB.out)) hb); clear HO146; clear HB; have HO146 := n0_; have HO149 := n1_; have HB := n2_; clear n0_ n1_ n2_; (try clear hb); (try clear hb2); (try clear hk); (try clear hi); (try clear ho0)) | ((with_reducible refine gate_callee (f := 18) rfl ?_); refine goesL_ (some 23) rfl rfl Try.func18 (by kernel_rfl) rfl #[.slice A0 l0.length c0] rfl (by (try simp only [List.map_toArray, List.map_cons, List.map_nil]); first | done | rfl | (simp only [List.length_drop, List.length_take]; rfl)) ?_; (with_reducible refine (laws_toIncludesS.calls k _ _ l0 t150 _ ?side1 ?side2 A7.out).mono ?_); (case side1 => repeat (first | exact (Kd.C_below HR0.out HB.out) | (with_reducible refine Kd.C_alloc ?_ _) | (with_reducible refine Kd.C_drewN ?_ _) | (with_reducible refine Kd.C_drew ?_))); (case side2 => exact HC0.out); rintro e w19 ⟨v151, rfl, ho0, hb⟩; refine ⟨_, rfl, ?_⟩; have n0_ := Aside0.mk (Kd.R_elder' (by (with_reducible repeat (first | apply Kd.R_alloc | apply Kd.R_drewN | apply Kd.R_drew)); exact HO146.out) (Kd.R_base ho0) hb); have n1_ := Aside0.mk (Kd.R_below (by (with_reducible repeat (first | apply Kd.R_alloc | apply Kd.R_drewN | apply Kd.R_drew)); exact HO149.out) hb); have n2_ := Aside0.mk (Kd.R_lower (Kd.R_new' ho0 (Kd.R_lt (by (with_reducible repeat (first | apply Kd.R_alloc | apply Kd.R_drewN | apply Kd.R_drew)); exact HO146.out))) (below_size (by repeat (first | (with_reducible first | exact HB.out | apply below_alloc | apply pw_below_drewN | apply below_drew1) | exact HB.out)))); have n3_ := Aside0.mk (below_step (by repeat (first | (with_reducible first | exact HB.out | apply below_alloc | apply pw_below_drewN | apply below_drew1) | exact HB.out)) hb); clear HO146; clear HO149; clear HB; have HO146 := n0_; have HO149 := n1_; have HO152 := n2_; have HB := n3_; clear n0_ n1_ n2_ n3_; (try clear hb); (try clear hb2); (try clear hk); (try clear hi); (try clear ho0); obtain ⟨Ao20, co20, eo20⟩ := Kd.R_slice HO152.out; subst eo20) | ((with_reducible refine gate_callee (f := 33) rfl ?_); refine goesL_ (some 26) rfl rfl Try.func33 (by kernel_rfl) rfl #[.slice Ao20 t150.length co20, .int .i64 a1] rfl (by (try simp only [List.map_toArray, List.map_cons, List.map_nil]); first | done | rfl | (simp only [List.length_drop, List.length_take]; rfl)) ?_; (with_reducible refine (impl_RolesUnder.calls k _ _ t150 a1 t153 _ ?side1 ?side2 A8.out).mono ?_); (case side1 => repeat (first | exact (Kd.R_reads' HO152.out).2.2 | (with_reducible refine Kd.C_alloc ?_ _) | (with_reducible refine Kd.C_drewN ?_ _) | (with_reducible refine Kd.C_drew ?_))); (case side2 => exact (Kd.R_reads' HO152.out).2.1); rintro e w21 ⟨v154, rfl, ho0, hb⟩; refine ⟨_, rfl, ?_⟩; have n0_ := Aside0.mk (Kd.R_below (by (with_reducible repeat (first | apply Kd.R_alloc | apply Kd.R_drewN | apply Kd.R_drew)); exact HO146.out) hb); have n1_ := Aside0.mk (Kd.R_elder' (by (with_reducible repeat (first | apply Kd.R_alloc | apply Kd.R_drewN | apply Kd.R_drew)); exact HO149.out) (Kd.R_base ho0) hb); have n2_ := Aside0.mk (Kd.R_below (by (with_reducible repeat (first | apply Kd.R_alloc | apply Kd.R_drewN | apply Kd.R_drew)); exact HO152.out) hb); have n3_ := Aside0.mk (Kd.R_lower (Kd.R_new' ho0 (Kd.R_lt (by (with_reducible repeat (first | apply Kd.R_alloc | apply Kd.R_drewN | apply Kd.R_drew)); exact HO149.out))) (below_size (by repeat (first | (with_reducible first | exact HB.out | apply below_alloc | apply pw_below_drewN | apply below_drew1) | exact HB.out)))); have n4_ := Aside0.mk (below_step (by repeat (first | (with_reducible first | exact HB.out | apply below_alloc | apply pw_below_drewN | apply below_drew1) | exact HB.out)) hb); clear HO146; clear HO149; clear HO152; clear HB; have HO146 := n0_; have HO149 := n1_; have HO152 := n2_; have HO155 := n3_; have HB := n4_; clear n0_ n1_ n2_ n3_ n4_; (try clear hb); (try clear hb2); (try clear hk); (try clear hi); (try clear ho0); obtain ⟨Ao22, co22, eo22⟩ := Kd.R_slice HO155.out; subst eo22; obtain ⟨Ao23, co23, eo23⟩ := Kd.R_slice HO149.out; subst eo23) | ((with_reducible refine gate_callee (f := 21) rfl ?_); refine goesL_ (some 29) rfl rfl Try.func21 (by kernel_rfl) rfl #[.slice Ao22 t153.length co22, .slice Ao23 t147.length co23] rfl (by (try simp only [List.map_toArray, List.map_cons, List.map_nil]); first | done | rfl | (simp only [List.length_drop, List.length_take]; rfl)) ?_; (with_reducible refine (laws_eqIntS.calls k _ _ t153 _ _ t147 true _ ?side1 ?side2 ?side3 ?side4 A9.out).mono ?_); (case side1 => repeat (first | exact (Kd.R_reads' HO155.out).2.2 | (with_reducible refine Kd.C_alloc ?_ _) | (with_reducible refine Kd.C_drewN ?_ _) | (with_reducible refine Kd.C_drew ?_))); (case side2 => exact (Kd.R_reads' HO155.out).2.1); (case side3 => repeat (first | exact (Kd.R_reads' HO149.out).2.2 | (with_reducible refine Kd.C_alloc ?_ _) | (with_reducible refine Kd.C_drewN ?_ _) | (with_reducible refine Kd.C_drew ?_))); (case side4 => exact (Kd.R_reads' HO149.out).2.1); rintro e w' ⟨rfl, ⟨nd, rfl⟩⟩; refine ⟨_, rfl, ?_⟩) | ((with_reducible refine gate_callee (f := 18) rfl ?_); refine goesL_ (some 33) rfl rfl Try.func18 (by kernel_rfl) rfl #[.slice A0 l0.length c0] rfl (by (try simp only [List.map_toArray, List.map_cons, List.map_nil]); first | done | rfl | (simp only [List.length_drop, List.length_take]; rfl)) ?_; (with_reducible refine (laws_toIncludesS.calls k _ _ l0 t157 _ ?side1 ?side2 A11.out).mono ?_); (case side1 => repeat (first | exact (Kd.C_below HR0.out (by repeat (first | (with_reducible first | exact HB.out | apply below_alloc | apply pw_below_drewN | apply below_drew1) | exact HB.out))) | (with_reducible refine Kd.C_alloc ?_ _) | (with_reducible refine Kd.C_drewN ?_ _) | (with_reducible refine Kd.C_drew ?_))); (case side2 => exact HC0.out); rintro e w24 ⟨v158, rfl, ho0, hb⟩; refine ⟨_, rfl, ?_⟩; have n0_ := Aside0.mk (Kd.R_elder' (by (with_reducible repeat (first | apply Kd.R_alloc | apply Kd.R_drewN | apply Kd.R_drew)); exact HO146.out) (Kd.R_base ho0) hb); have n1_ := Aside0.mk (Kd.R_below (by (with_reducible repeat (first | apply Kd.R_alloc | apply Kd.R_drewN | apply Kd.R_drew)); exact HO149.out) hb); have n2_ := Aside0.mk (Kd.R_elder' (by (with_reducible repeat (first | apply Kd.R_alloc | apply Kd.R_drewN | apply Kd.R_drew)); exact HO152.out) (Kd.R_base ho0) hb); have n3_ := Aside0.mk (Kd.R_below (by (with_reducible repeat (first | apply Kd.R_alloc | apply Kd.R_drewN | apply Kd.R_drew)); exact HO155.out) hb); have n4_ := Aside0.mk (Kd.R_lower (Kd.R_new' (Kd.R_new' ho0 (Kd.R_lt (by (with_reducible repeat (first | apply Kd.R_alloc | apply Kd.R_drewN | apply Kd.R_drew)); exact HO146.out))) (Kd.R_lt (by (with_reducible repeat (first | apply Kd.R_alloc | apply Kd.R_drewN | apply Kd.R_drew)); exact HO152.out))) (below_size (by repeat (first | (with_reducible first | exact HB.out | apply below_alloc | apply pw_below_drewN | apply below_drew1) | exact HB.out)))); have n5_ := Aside0.mk (below_step (by repeat (first | (with_reducible first | exact HB.out | apply below_alloc | apply pw_below_drewN | apply below_drew1) | exact HB.out)) hb); clear HO146; clear HO149; clear HO152; clear HO155; clear HB; have HO146 := n0_; have HO149 := n1_; have HO152 := n2_; have HO155 := n3_; have HO159 := n4_; have HB := n5_; clear n0_ n1_ n2_ n3_ n4_ n5_; (try clear hb); (try clear hb2); (try clear hk); (try clear hi); (try clear ho0); obtain ⟨Ao25, co25, eo25⟩ := Kd.R_slice HO159.out; subst eo25) | ((with_reducible refine gate_callee (f := 22) rfl ?_); refine goesL_ (some 34) rfl rfl Try.func22 (by kernel_rfl) rfl #[.slice Ao20 t150.length co20, .slice Ao25 t157.length co25] rfl (by (try simp only [List.map_toArray, List.map_cons, List.map_nil]); first | done | rfl | (simp only [List.length_drop, List.length_take]; rfl)) ?_; (with_reducible refine (laws_eqIncludesS.calls k _ _ t150 _ _ t157 true _ ?side1 ?side2 ?side3 ?side4 A12.out).mono ?_); (case side1 => repeat (first | exact (Kd.R_reads' HO152.out).2.2 | (with_reducible refine Kd.C_alloc ?_ _) | (with_reducible refine Kd.C_drewN ?_ _) | (with_reducible refine Kd.C_drew ?_))); (case side2 => exact (Kd.R_reads' HO152.out).2.1); (case side3 => repeat (first | exact (Kd.R_reads' HO159.out).2.2 | (with_reducible refine Kd.C_alloc ?_ _) | (with_reducible refine Kd.C_drewN ?_ _) | (with_reducible refine Kd.C_drew ?_))); (case side4 => exact (Kd.R_reads' HO159.out).2.1); rintro e w26 ⟨rfl, hb⟩; refine ⟨_, rfl, ?_⟩; have n0_ := Aside0.mk (Kd.R_below (by (with_reducible repeat (first | apply Kd.R_alloc | apply Kd.R_drewN | apply Kd.R_drew)); exact HO146.out) hb); have n1_ := Aside0.mk (Kd.R_below (by (with_reducible repeat (first | apply Kd.R_alloc | apply Kd.R_drewN | apply Kd.R_drew)); exact HO149.out) hb); have n2_ := Aside0.mk (Kd.R_below (by (with_reducible repeat (first | apply Kd.R_alloc | apply Kd.R_drewN | apply Kd.R_drew)); exact HO152.out) hb); have n3_ := Aside0.mk (Kd.R_below (by (with_reducible repeat (first | apply Kd.R_alloc | apply Kd.R_drewN | apply Kd.R_drew)); exact HO155.out) hb); have n4_ := Aside0.mk (Kd.R_below (by (with_reducible repeat (first | apply Kd.R_alloc | apply Kd.R_drewN | apply Kd.R_drew)); exact HO159.out) hb); have n5_ := Aside0.mk (below_step (by repeat (first | (with_reducible first | exact HB.out | apply below_alloc | apply pw_below_drewN | apply below_drew1) | exact HB.out)) hb); clear HO146; clear HO149; clear HO152; clear HO155; clear HO159; clear HB; have HO146 := n0_; have HO149 := n1_; have HO152 := n2_; have HO155 := n3_; have HO159 := n4_; have HB := n5_; clear n0_ n1_ n2_ n3_ n4_ n5_; (try clear hb); (try clear hb2); (try clear hk); (try clear hi)) | ((with_reducible refine gate_callee (f := 24) rfl ?_); refine goesL_ (some 38) rfl rfl Try.func24 (by kernel_rfl) rfl #[.slice Ao20 t150.length co20, .int .i64 1] rfl (by (try simp only [List.map_toArray, List.map_cons, List.map_nil]); first | done | rfl | (simp only [List.length_drop, List.length_take]; rfl)) ?_; (with_reducible refine (laws_markIncludesS.calls k (fun k_ => some k_ = (.slice Ao20 t150.length co20 : Value).ownBlock) (.slice Ao20 t150.length co20) t150 1 t161 t162 w _ ?side1 ?side2 A14.out).mono ?_); (case side1 => repeat (first | (with_reducible first | exact HB.out | apply below_alloc | apply pw_below_drewN | apply below_drew1) | exact HB.out)); (case side2 => exact Kd.R_tight rfl HO152.out); rintro e w27 ⟨rfl, hy0, hb, hkp⟩; refine ⟨_, rfl, ?_⟩; have n0_ := Aside0.mk (Kd.R_mono (ok' := fun k_ => some k_ ≠ (.slice Ao20 t150.length co20 : Value).ownBlock ∧ some k_ ≠ (.slice Ao25 t157.length co25 : Value).ownBlock) (Kd.R_keptB (HO146.out) hkp (fun k_ hk_ hs_ => (hk_.1.2) hs_)) (fun k_ hk_ => ⟨hk_.1.1.2, hk_.1.2⟩)); have n1_ := Aside0.mk (Kd.R_mono (ok' := fun k_ => some k_ ≠ (.slice Ao22 t153.length co22 : Value).ownBlock) (Kd.R_keptB ((Kd.R_apart' HO149.out (Kd.R_typed HO152.out) (by decide))) hkp (fun k_ hk_ hs_ => (hk_.2) hs_)) (fun k_ hk_ => hk_.1.1.2)); have n2_ := Aside0.mk (Kd.R_reok rfl hy0 (fun k_ e_ => HO152.out.1 k_ e_)); have n3_ := Aside0.mk (Kd.R_mono (ok' := fun k_ => some k_ ≠ (.slice Ao23 t147.length co23 : Value).ownBlock) (Kd.R_keptB ((Kd.R_apart' HO155.out (Kd.R_typed HO152.out) (by decide))) hkp (fun k_ hk_ hs_ => (hk_.2) hs_)) (fun k_ hk_ => hk_.1.1.2)); have n4_ := Aside0.mk (Kd.R_mono (ok' := fun k_ => some k_ ≠ (.slice Ao17 t144.length co17 : Value).ownBlock ∧ some k_ ≠ (.slice Ao20 t150.length co20 : Value).ownBlock) (Kd.R_keptB (HO159.out) hkp (fun k_ hk_ hs_ => (hk_.2) hs_)) (fun k_ hk_ => ⟨hk_.1.1.2, hk_.1.2⟩)); have n5_ := Aside0.mk (hb); clear HO146; clear HO149; clear HO152; clear HO155; clear HO159; clear HB; have HO146 := n0_; have HO149 := n1_; have HO152 := n2_; have HO155 := n3_; have HO159 := n4_; have HB := n5_; clear n0_ n1_ n2_ n3_ n4_ n5_; (try clear hb); (try clear hkp); (try clear hy0)))
        (try simp only [Act.put, List.setIfInBounds_toArray, List.set_cons_zero, List.set_cons_succ])
        go_cut [46] (fun v46 wc => ∃ (kq : Nat) (x46_14 : Bool), v46 = .bool x46_14 ∧ Aside0 (laws_FnExactRolesUnder.j0 kq l0 a1 t147 t153 x46_14 = some r) ∧ Aside0 (kq ≤ k) ∧ Aside0 (Kd.R (Kd.int .i64) 3 wc w.heap.size (fun k_ => some k_ ≠ ((.slice Ao22 t153.length co22) : Value).ownBlock) (.slice Ao23 t147.length co23) t147) ∧ Aside0 (Kd.R (Kd.int .i64) 3 wc w.heap.size (fun k_ => some k_ ≠ ((.slice Ao23 t147.length co23) : Value).ownBlock) (.slice Ao22 t153.length co22) t153) ∧ Aside0 (Below w.heap.size w wc))
        case first =>
          have H := HC15.out
          clear HC15
          by_cases c28 : t161 < 0
          · rw [if_pos c28] at H
            have c28b0 : decide (t161 < 0) = true := decide_eq_true c28
            clear c28
            (first | rw [c28b0] | (simp only [i64_w, i32_w]; rw [c28b0]) | skip)
            have H' := Aside0.mk H
            clear H
            go_wp2
            go_meet
            case rel => exact ⟨_, (true), (by first | rfl | (simp; done) | (simp [*]; done)), H', ⟨by first | omega | exact Nat.le_refl _⟩, ⟨by (with_reducible repeat (first | apply Kd.R_alloc | apply Kd.R_drewN | apply Kd.R_drew)); exact HO149.out⟩, ⟨by (with_reducible repeat (first | apply Kd.R_alloc | apply Kd.R_drewN | apply Kd.R_drew)); exact HO155.out⟩, ⟨by repeat (first | (with_reducible first | exact HB.out | apply below_alloc | apply pw_below_drewN | apply below_drew1) | exact HB.out)⟩⟩
          · rw [if_neg c28] at H
            have c28b0 : decide (t161 < 0) = false := decide_eq_false c28
            clear c28
            (first | rw [c28b0] | (simp only [i64_w, i32_w]; rw [c28b0]) | skip)
            replace H := Option.bind_eq_some_iff.mp H
            obtain ⟨t163, A290, H⟩ := H
            replace H : (laws_FnExactRolesUnder.j0 k l0 a1 t147 t153 (!t163)) = some r := H
            have A29 := Aside0.mk A290
            clear A290
            have H' := Aside0.mk H
            clear H
            go_wp2_with (first | (go_at_call 21; (with_reducible refine (laws_eqIntS.calls k _ _ t153 _ _ t147 t163 _ ?side1 ?side2 ?side3 ?side4 A29.out).mono ?_); (case side1 => repeat (first | exact (Kd.R_reads' HO155.out).2.2 | (with_reducible refine Kd.C_alloc ?_ _) | (with_reducible refine Kd.C_drewN ?_ _) | (with_reducible refine Kd.C_drew ?_))); (case side2 => exact (Kd.R_reads' HO155.out).2.1); (case side3 => repeat (first | exact (Kd.R_reads' HO149.out).2.2 | (with_reducible refine Kd.C_alloc ?_ _) | (with_reducible refine Kd.C_drewN ?_ _) | (with_reducible refine Kd.C_drew ?_))); (case side4 => exact (Kd.R_reads' HO149.out).2.1); rintro e w' ⟨rfl, ⟨nd, rfl⟩⟩))
            go_meet
            case rel => exact ⟨_, (!t163), (by first | rfl | (simp; done) | (simp [*]; done)), H', ⟨by first | omega | exact Nat.le_refl _⟩, ⟨by (with_reducible repeat (first | apply Kd.R_alloc | apply Kd.R_drewN | apply Kd.R_drew)); exact HO149.out⟩, ⟨by (with_reducible repeat (first | apply Kd.R_alloc | apply Kd.R_drewN | apply Kd.R_drew)); exact HO155.out⟩, ⟨by repeat (first | (with_reducible first | exact HB.out | apply below_alloc | apply pw_below_drewN | apply below_drew1) | exact HB.out)⟩⟩
        case rest =>
          clear HC15
          try clear c1
          try clear c2
          try clear p2
          try clear c3
          try clear c4
          try clear c4b0
          try clear c6
          try clear c10
          try clear c13
          try clear c15
          try clear c18
          try clear c21
          try clear c22
          try clear c24
          try clear c28
          try clear c28b0
          obtain ⟨kq, x46_14, rfl, HA, HJ14, HO_6, HO_8, HB⟩ := hcut
          cases kq with
          | zero => exact absurd HA.out (by simp [laws_FnExactRolesUnder.j0])
          | succ kj14 =>
            have H := HA.out
            clear HA
            simp only [laws_FnExactRolesUnder.j0] at H
            by_cases c30 : x46_14 = true
            · subst c30
              have H1 : (some false) = some r := by rw [if_pos rfl] at H; exact H
              clear H
              have H := H1
              clear H1
              exact absurd ((Option.some.inj H).trans hr_.out) (by decide)
            · replace c30 := Bool.eq_false_iff.mpr c30
              subst c30
              have H1 : ((laws_markIntS.f kj14 t153 1).bind fun bt164 => ((laws_heldIntS.f kj14 bt164.2 1).bind fun t166 => (if t166 < 0 then (some false) else (if t166 = bt164.1 then ((laws_toIncludesS.f kj14 l0).bind fun t167 => ((impl_RolesUnder.f kj14 t167 a1).bind fun t170 => ((laws_eqIntS.f kj14 t170 t147).bind fun t173 => (if t173 = true then ((laws_heldIntS.f kj14 bt164.2 1).bind fun t174 => (if t174 < 0 then (some false) else (if t174 = bt164.1 then (some true) else (some false)))) else (some false))))) else (some false))))) = some r := by rw [if_neg (show ¬ (false = true) by decide)] at H; exact H
              clear H
              have H := H1
              clear H1
              replace H := Option.bind_eq_some_iff.mp H
              obtain ⟨⟨t164, t165⟩, A310, H⟩ := H
              replace H : ((laws_heldIntS.f kj14 t165 1).bind fun t166 => (if t166 < 0 then (some false) else (if t166 = t164 then ((laws_toIncludesS.f kj14 l0).bind fun t167 => ((impl_RolesUnder.f kj14 t167 a1).bind fun t170 => ((laws_eqIntS.f kj14 t170 t147).bind fun t173 => (if t173 = true then ((laws_heldIntS.f kj14 t165 1).bind fun t174 => (if t174 < 0 then (some false) else (if t174 = t164 then (some true) else (some false)))) else (some false))))) else (some false)))) = some r := H
              have A31 := Aside0.mk A310
              clear A310
              replace H := Option.bind_eq_some_iff.mp H
              obtain ⟨t166, A320, H⟩ := H
              replace H : (if t166 < 0 then (some false) else (if t166 = t164 then ((laws_toIncludesS.f kj14 l0).bind fun t167 => ((impl_RolesUnder.f kj14 t167 a1).bind fun t170 => ((laws_eqIntS.f kj14 t170 t147).bind fun t173 => (if t173 = true then ((laws_heldIntS.f kj14 t165 1).bind fun t174 => (if t174 < 0 then (some false) else (if t174 = t164 then (some true) else (some false)))) else (some false))))) else (some false))) = some r := H
              have A32 := Aside0.mk A320
              clear A320
              by_cases c33 : t166 < 0
              · rw [if_pos c33] at H
                have c33b0 : decide (t166 < 0) = true := decide_eq_true c33
                clear c33
                exact absurd ((Option.some.inj H).trans hr_.out) (by decide)
              · rw [if_neg c33] at H
                have c33b0 : decide (t166 < 0) = false := decide_eq_false c33
                clear c33
                by_cases c34 : t166 = t164
                · rw [if_pos c34] at H
                  have c34b0 : (t166 == t164) = true := beq_iff_eq.mpr c34
                  have c34b1 : (t166 != t164) = false := bne_eq_false_iff_eq.mpr c34
                  clear c34
                  replace H := Option.bind_eq_some_iff.mp H
                  obtain ⟨t167, A350, H⟩ := H
                  replace H : ((impl_RolesUnder.f kj14 t167 a1).bind fun t170 => ((laws_eqIntS.f kj14 t170 t147).bind fun t173 => (if t173 = true then ((laws_heldIntS.f kj14 t165 1).bind fun t174 => (if t174 < 0 then (some false) else (if t174 = t164 then (some true) else (some false)))) else (some false)))) = some r := H
                  have A35 := Aside0.mk A350
                  clear A350
                  replace H := Option.bind_eq_some_iff.mp H
                  obtain ⟨t170, A360, H⟩ := H
                  replace H : ((laws_eqIntS.f kj14 t170 t147).bind fun t173 => (if t173 = true then ((laws_heldIntS.f kj14 t165 1).bind fun t174 => (if t174 < 0 then (some false) else (if t174 = t164 then (some true) else (some false)))) else (some false))) = some r := H
                  have A36 := Aside0.mk A360
                  clear A360
                  replace H := Option.bind_eq_some_iff.mp H
                  obtain ⟨t173, A370, H⟩ := H
                  replace H : (if t173 = true then ((laws_heldIntS.f kj14 t165 1).bind fun t174 => (if t174 < 0 then (some false) else (if t174 = t164 then (some true) else (some false)))) else (some false)) = some r := H
                  have A37 := Aside0.mk A370
                  clear A370
                  by_cases c38 : t173 = true
                  · subst c38
                    have H1 : ((laws_heldIntS.f kj14 t165 1).bind fun t174 => (if t174 < 0 then (some false) else (if t174 = t164 then (some true) else (some false)))) = some r := by rw [if_pos rfl] at H; exact H
                    clear H
                    have H := H1
                    clear H1
                    replace H := Option.bind_eq_some_iff.mp H
                    obtain ⟨t174, A390, H⟩ := H
                    replace H : (if t174 < 0 then (some false) else (if t174 = t164 then (some true) else (some false))) = some r := H
                    have A39 := Aside0.mk A390
                    clear A390
                    by_cases c40 : t174 < 0
                    · rw [if_pos c40] at H
                      have c40b0 : decide (t174 < 0) = true := decide_eq_true c40
                      clear c40
                      exact absurd ((Option.some.inj H).trans hr_.out) (by decide)
                    · rw [if_neg c40] at H
                      have c40b0 : decide (t174 < 0) = false := decide_eq_false c40
                      clear c40
                      by_cases c41 : t174 = t164
                      · rw [if_pos c41] at H
                        have c41b0 : (t174 == t164) = true := beq_iff_eq.mpr c41
                        have c41b1 : (t174 != t164) = false := bne_eq_false_iff_eq.mpr c41
                        clear c41
                        obtain rfl := Option.some.inj H
                        go_wp2_with (first | ((with_reducible refine gate_callee (f := 26) rfl ?_); refine goesL_ (some 49) rfl rfl Try.func26 (by kernel_rfl) rfl #[.slice Ao22 t153.length co22, .int .i64 1] rfl (by (try simp only [List.map_toArray, List.map_cons, List.map_nil]); first | done | rfl | (simp only [List.length_drop, List.length_take]; rfl)) ?_; (with_reducible refine (laws_markIntS.calls kj14 (fun k_ => some k_ = (.slice Ao22 t153.length co22 : Value).ownBlock) (.slice Ao22 t153.length co22) t153 1 t164 t165 w _ ?side1 ?side2 A31.out).mono ?_); (case side1 => repeat (first | (with_reducible first | exact HB.out | apply below_alloc | apply pw_below_drewN | apply below_drew1) | exact HB.out)); (case side2 => exact Kd.R_tight rfl HO_8.out); rintro e w42 ⟨rfl, hy0, hb, hkp⟩; refine ⟨_, rfl, ?_⟩; have n0_ := Aside0.mk (Kd.R_mono (ok' := fun k_ => some k_ ≠ (.slice Ao22 t153.length co22 : Value).ownBlock) (Kd.R_keptB (HO_6.out) hkp (fun k_ hk_ hs_ => (hk_) hs_)) (fun k_ hk_ => hk_.1)); have n1_ := Aside0.mk (Kd.R_reok rfl hy0 (fun k_ e_ => HO_8.out.1 k_ e_)); have n2_ := Aside0.mk (hb); clear HO_6; clear HO_8; clear HB; have HO_6 := n0_; have HO_8 := n1_; have HB := n2_; clear n0_ n1_ n2_; (try clear hb); (try clear hkp); (try clear hy0)) | ((with_reducible refine gate_callee (f := 27) rfl ?_); refine goesL_ (some 52) rfl rfl Try.func27 (by kernel_rfl) rfl #[.slice Ao22 t165.length co22, .int .i64 1] rfl (by (try simp only [List.map_toArray, List.map_cons, List.map_nil]); first | done | (rw [show t165.length = t153.length from (Kd.R_reads' HO_8.out).1.symm] <;> rfl) | rfl | (simp only [List.length_drop, List.length_take]; rfl)) ?_; (with_reducible refine (laws_heldIntS.calls kj14 _ _ t165 1 t166 _ ?side1 ?side2 A32.out).mono ?_); (case side1 => repeat (first | exact (Kd.R_reads' HO_8.out).2.2 | (with_reducible refine Kd.C_alloc ?_ _) | (with_reducible refine Kd.C_drewN ?_ _) | (with_reducible refine Kd.C_drew ?_))); (case side2 => rw [show t165.length = t153.length from (Kd.R_reads' HO_8.out).1.symm]; exact (Kd.R_reads' HO_8.out).2.1); rintro e w' ⟨rfl, ⟨nd, rfl⟩⟩; refine ⟨_, rfl, ?_⟩) | ((with_reducible refine gate_callee (f := 18) rfl ?_); refine goesL_ (some 59) rfl rfl Try.func18 (by kernel_rfl) rfl #[.slice A0 l0.length c0] rfl (by (try simp only [List.map_toArray, List.map_cons, List.map_nil]); first | done | rfl | (simp only [List.length_drop, List.length_take]; rfl)) ?_; (with_reducible refine (laws_toIncludesS.calls kj14 _ _ l0 t167 _ ?side1 ?side2 A35.out).mono ?_); (case side1 => repeat (first | exact (Kd.C_below HR0.out (by repeat (first | (with_reducible first | exact HB.out | apply below_alloc | apply pw_below_drewN | apply below_drew1) | exact HB.out))) | (with_reducible refine Kd.C_alloc ?_ _) | (with_reducible refine Kd.C_drewN ?_ _) | (with_reducible refine Kd.C_drew ?_))); (case side2 => exact HC0.out); rintro e w43 ⟨v168, rfl, ho0, hb⟩; refine ⟨_, rfl, ?_⟩; have n0_ := Aside0.mk (Kd.R_below (by (with_reducible repeat (first | apply Kd.R_alloc | apply Kd.R_drewN | apply Kd.R_drew)); exact HO_6.out) hb); have n1_ := Aside0.mk (Kd.R_below (by (with_reducible repeat (first | apply Kd.R_alloc | apply Kd.R_drewN | apply Kd.R_drew)); exact HO_8.out) hb); have n2_ := Aside0.mk (Kd.R_lower ho0 (below_size (by repeat (first | (with_reducible first | exact HB.out | apply below_alloc | apply pw_below_drewN | apply below_drew1) | exact HB.out)))); have n3_ := Aside0.mk (below_step (by repeat (first | (with_reducible first | exact HB.out | apply below_alloc | apply pw_below_drewN | apply below_drew1) | exact HB.out)) hb); clear HO_6; clear HO_8; clear HB; have HO_6 := n0_; have HO_8 := n1_; have HO169 := n2_; have HB := n3_; clear n0_ n1_ n2_ n3_; (try clear hb); (try clear hb2); (try clear hk); (try clear hi); (try clear ho0); obtain ⟨Ao44, co44, eo44⟩ := Kd.R_slice HO169.out; subst eo44) | ((with_reducible refine gate_callee (f := 33) rfl ?_); refine goesL_ (some 61) rfl rfl Try.func33 (by kernel_rfl) rfl #[.slice Ao44 t167.length co44, .int .i64 a1] rfl (by (try simp only [List.map_toArray, List.map_cons, List.map_nil]); first | done | rfl | (simp only [List.length_drop, List.length_take]; rfl)) ?_; (with_reducible refine (impl_RolesUnder.calls kj14 _ _ t167 a1 t170 _ ?side1 ?side2 A36.out).mono ?_); (case side1 => repeat (first | exact (Kd.R_reads' HO169.out).2.2 | (with_reducible refine Kd.C_alloc ?_ _) | (with_reducible refine Kd.C_drewN ?_ _) | (with_reducible refine Kd.C_drew ?_))); (case side2 => exact (Kd.R_reads' HO169.out).2.1); rintro e w45 ⟨v171, rfl, ho0, hb⟩; refine ⟨_, rfl, ?_⟩; have n0_ := Aside0.mk (Kd.R_elder' (by (with_reducible repeat (first | apply Kd.R_alloc | apply Kd.R_drewN | apply Kd.R_drew)); exact HO_6.out) (Kd.R_base ho0) hb); have n1_ := Aside0.mk (Kd.R_elder' (by (with_reducible repeat (first | apply Kd.R_alloc | apply Kd.R_drewN | apply Kd.R_drew)); exact HO_8.out) (Kd.R_base ho0) hb); have n2_ := Aside0.mk (Kd.R_below (by (with_reducible repeat (first | apply Kd.R_alloc | apply Kd.R_drewN | apply Kd.R_drew)); exact HO169.out) hb); have n3_ := Aside0.mk (Kd.R_lower (Kd.R_new' (Kd.R_new' ho0 (Kd.R_lt (by (with_reducible repeat (first | apply Kd.R_alloc | apply Kd.R_drewN | apply Kd.R_drew)); exact HO_6.out))) (Kd.R_lt (by (with_reducible repeat (first | apply Kd.R_alloc | apply Kd.R_drewN | apply Kd.R_drew)); exact HO_8.out))) (below_size (by repeat (first | (with_reducible first | exact HB.out | apply below_alloc | apply pw_below_drewN | apply below_drew1) | exact HB.out)))); have n4_ := Aside0.mk (below_step (by repeat (first | (with_reducible first | exact HB.out | apply below_alloc | apply pw_below_drewN | apply below_drew1) | exact HB.out)) hb); clear HO_6; clear HO_8; clear HO169; clear HB; have HO_6 := n0_; have HO_8 := n1_; have HO169 := n2_; have HO172 := n3_; have HB := n4_; clear n0_ n1_ n2_ n3_ n4_; (try clear hb); (try clear hb2); (try clear hk); (try clear hi); (try clear ho0); obtain ⟨Ao46, co46, eo46⟩ := Kd.R_slice HO172.out; subst eo46) | ((with_reducible refine gate_callee (f := 21) rfl ?_); refine goesL_ (some 64) rfl rfl Try.func21 (by kernel_rfl) rfl #[.slice Ao46 t170.length co46, .slice Ao23 t147.length co23] rfl (by (try simp only [List.map_toArray, List.map_cons, List.map_nil]); first | done | rfl | (simp only [List.length_drop, List.length_take]; rfl)) ?_; (with_reducible refine (laws_eqIntS.calls kj14 _ _ t170 _ _ t147 true _ ?side1 ?side2 ?side3 ?side4 A37.out).mono ?_); (case side1 => repeat (first | exact (Kd.R_reads' HO172.out).2.2 | (with_reducible refine Kd.C_alloc ?_ _) | (with_reducible refine Kd.C_drewN ?_ _) | (with_reducible refine Kd.C_drew ?_))); (case side2 => exact (Kd.R_reads' HO172.out).2.1); (case side3 => repeat (first | exact (Kd.R_reads' HO_6.out).2.2 | (with_reducible refine Kd.C_alloc ?_ _) | (with_reducible refine Kd.C_drewN ?_ _) | (with_reducible refine Kd.C_drew ?_))); (case side4 => exact (Kd.R_reads' HO_6.out).2.1); rintro e w' ⟨rfl, ⟨nd, rfl⟩⟩; refine ⟨_, rfl, ?_⟩) | ((with_reducible refine gate_callee (f := 27) rfl ?_); refine goesL_ (some 68) rfl rfl Try.func27 (by kernel_rfl) rfl #[.slice Ao22 t165.length co22, .int .i64 1] rfl (by (try simp only [List.map_toArray, List.map_cons, List.map_nil]); first | done | (rw [show t165.length = t153.length from (Kd.R_reads' HO_8.out).1.symm] <;> rfl) | rfl | (simp only [List.length_drop, List.length_take]; rfl)) ?_; (with_reducible refine (laws_heldIntS.calls kj14 _ _ t165 1 t174 _ ?side1 ?side2 A39.out).mono ?_); (case side1 => repeat (first | exact (Kd.R_reads' HO_8.out).2.2 | (with_reducible refine Kd.C_alloc ?_ _) | (with_reducible refine Kd.C_drewN ?_ _) | (with_reducible refine Kd.C_drew ?_))); (case side2 => rw [show t165.length = t153.length from (Kd.R_reads' HO_8.out).1.symm]; exact (Kd.R_reads' HO_8.out).2.1); rintro e w' ⟨rfl, ⟨nd, rfl⟩⟩; refine ⟨_, rfl, ?_⟩))
                        go_ret
                        exact ⟨by first | rfl | (simp [errW_none, errW_some] <;> rfl) | (simp [*, errW_none, errW_some] <;> rfl), by repeat (first | (with_reducible first | exact HB.out | apply below_alloc | apply pw_below_drewN | apply below_drew1) | exact HB.out)⟩
                      · rw [if_neg c41] at H
                        have c41b0 : (t174 == t164) = false := beq_eq_false_iff_ne.mpr c41
                        have c41b1 : (t174 != t164) = true := bne_iff_ne.mpr c41
                        exact absurd ((Option.some.inj H).trans hr_.out) (by decide)
                  · replace c38 := Bool.eq_false_iff.mpr c38
                    subst c38
                    have H1 : (some false) = some r := by rw [if_neg (show ¬ (false = true) by decide)] at H; exact H
                    clear H
                    have H := H1
                    clear H1
                    exact absurd ((Option.some.inj H).trans hr_.out) (by decide)
                · rw [if_neg c34] at H
                  have c34b0 : (t166 == t164) = false := beq_eq_false_iff_ne.mpr c34
                  have c34b1 : (t166 != t164) = true := bne_iff_ne.mpr c34
                  exact absurd ((Option.some.inj H).trans hr_.out) (by decide)
      · replace c13 := Bool.eq_false_iff.mpr c13
        subst c13
        have H1 : (some false) = some r := by rw [if_neg (show ¬ (false = true) by decide)] at H; exact H
        clear H
        have H := H1
        clear H1
        exact absurd ((Option.some.inj H).trans hr_.out) (by decide)
    · replace c10 := Bool.eq_false_iff.mpr c10
      subst c10
      have H1 : (some false) = some r := by rw [if_neg (show ¬ (false = true) by decide)] at H; exact H
      clear H
      have H := H1
      clear H1
      exact absurd ((Option.some.inj H).trans hr_.out) (by decide)

def wf80 (x : S80) : Prop := (Lit.int .i64 x.f0).wf = true ∧ (Lit.int .i64 x.f1).wf = true
/-- THE ONE PURE STATEMENT of laws_FnExactRolesUnder. -/
def laws_FnExactRolesUnder.Pure : Prop := ∀ (l0 : List (S80)) (a1 : Int), ((l0.length ≤ maxLen ∧ ∀ y2 ∈ l0, wf80 y2)) → ((Lit.int .i64 a1).wf = true) → ∃ k, laws_FnExactRolesUnder.f k l0 a1 = some true

end Go.Proofs.Ytgmgoabohppkeaa.XFnExactRolesUnder
