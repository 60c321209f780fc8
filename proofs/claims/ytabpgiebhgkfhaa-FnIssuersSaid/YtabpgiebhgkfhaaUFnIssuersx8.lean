/- Written by this session's own program (wip/xprint, which runs over the kit's print): what the functions that the law reaches come to, each proved; and the law's row. Conditions: none. -/
import Derived.Test.YtabpgiebhgkfhaaUFnIssuersSq
import Derived.Test.YtabpgiebhgkfhaaUFnIssuersx0
import Derived.Shelf.Spec.SlicesInsertGrow
namespace Go.Proofs.Ytabpgiebhgkfhaa.XFnIssuers
open Go.RowKit Go.Proofs.YtabpgiebhgkfhaaW.PrintWords Go.Proofs.YtabpgiebhgkfhaaW.PrintLast Go.Proofs.YtabpgiebhgkfhaaW.PrintMore Go.Proofs.YtabpgiebhgkfhaaSq
attribute [local go_sem] max2_int min2_int max_two min_two max_three min_three max_four min_four   -- for this text's walks alone
set_option linter.unusedVariables false
set_option linter.unusedSimpArgs false

/-! ### impl_isLater: function 111 -/
def impl_isLater.f (a0_0 : Int) (a0_1 : Int) (a0_2 : Int) (a0_3 : Int) (a0_4 : Int) (a0_5 : Int) (a1_0 : Int) (a1_1 : Int) (a1_2 : Int) (a1_3 : Int) (a1_4 : Int) (a1_5 : Int) : Option (Bool) := if a0_4 > a1_4 then (some true) else (if a0_4 = a1_4 then (some (decide (a0_5 > a1_5))) else (some false))
theorem z111_0 {Q : Prop} (g : Q := by rw [hg]; exact (below_size sqh)) : Q := g
set_option maxHeartbeats 8000000 in
set_option maxRecDepth 100000 in
theorem impl_isLater.calls (a0_0 : Int) (a0_1 : Int) (a0_2 : Int) (a0_3 : Int) (a0_4 : Int) (a0_5 : Int) (a1_0 : Int) (a1_1 : Int) (a1_2 : Int) (a1_3 : Int) (a1_4 : Int) (a1_5 : Int) (r : Bool) (w : World) (h : impl_isLater.f a0_0 a0_1 a0_2 a0_3 a0_4 a0_5 a1_0 a1_1 a1_2 a1_3 a1_4 a1_5 = some r) :
  Calls Try.prog 111 #[.agg #[.int .i64 a0_0, .int .i64 a0_1, .int .i64 a0_2, .int .i64 a0_3, .int .i64 a0_4, .int .i64 a0_5], .agg #[.int .i64 a1_0, .int .i64 a1_1, .int .i64 a1_2, .int .i64 a1_3, .int .i64 a1_4, .int .i64 a1_5]] w fun e w' => e = .returned (.bool r) ∧ Below w.heap.size w w' := by
 have hu55 := Try.underlying55
 have HB := As_.mk (Below.refl w.heap.size w)
 have H : (if a0_4 > a1_4 then (some true) else (if a0_4 = a1_4 then (some (decide (a0_5 > a1_5))) else (some false))) = some r := h
 clear h
 by_cases c3 : a0_4 > a1_4
 ·rw [if_pos c3] at H
  have c3b0 : decide (a1_4 < a0_4) = true := decide_eq_true c3
  clear c3
  obtain rfl := Option.some.inj H
  go_enter Try.func111, Try.ntmps111
  go_wp2_with (first | ((with_reducible refine gate_dst (N := 2) rfl ?_); refine bx (N := 2) (cs := #[.int .i64 a0_0, .int .i64 a0_1, .int .i64 a0_2, .int .i64 a0_3, .int .i64 a0_4, .int .i64 a0_5]) (t := 55) ?_; intro gb197 hg w4 hbox hb; have BK197 := As_.mk (hbox); have GW197 := As_.mk ((z111_0 : w.heap.size ≤ gb197)); have GE197 := As_.mk ((z111_0 : w.heap.size ≤ gb197)); replace HB := As_.mk (below_step sqh hb); clear hb hbox hg) | ((with_reducible refine gate_dst (N := 3) rfl ?_); refine bx (N := 3) (cs := #[.int .i64 a1_0, .int .i64 a1_1, .int .i64 a1_2, .int .i64 a1_3, .int .i64 a1_4, .int .i64 a1_5]) (t := 55) ?_; intro gb198 hg w5 hbox hb; have BK198 := As_.mk (hbox); have GW198 := As_.mk ((z111_0 : w.heap.size ≤ gb198)); have GE198 := As_.mk ((z111_0 : w.heap.size ≤ gb198)); replace HB := As_.mk (below_step sqh hb); have NB197_198 := As_.mk ((by rw [hg]; exact Nat.ne_of_lt (blk_lt (bo BK197)) : gb197 ≠ gb198)); have NB198_197 := As_.mk ((by rw [hg]; exact Nat.ne_of_gt (blk_lt (bo BK197)) : gb198 ≠ gb197)); replace BK197 := As_.mk (blk_below (bo BK197) hb); clear hb hbox hg; have hnb6 := NB197_198.out; have hnc6 := NB198_197.out; obtain ⟨hcz7_0, hcz7_1, hcz7_2, hcz7_3, hcz7_4, hcz7_5, hfz7_0, hfz7_1, hfz7_2, hfz7_3, hfz7_4, hfz7_5⟩ := sd6 BK197.out; obtain ⟨hcz8_0, hcz8_1, hcz8_2, hcz8_3, hcz8_4, hcz8_5, hfz8_0, hfz8_1, hfz8_2, hfz8_3, hfz8_4, hfz8_5⟩ := sd6 BK198.out))
  go_ret
  exact ⟨sqe, sqh⟩
 ·rw [if_neg c3] at H
  have c3b0 : decide (a1_4 < a0_4) = false := decide_eq_false c3
  clear c3
  by_cases c9 : a0_4 = a1_4
  ·rw [if_pos c9] at H
   have c9b0 : (a0_4 == a1_4) = true := beq_iff_eq.mpr c9
   have c9b1 : (a0_4 != a1_4) = false := bne_eq_false_iff_eq.mpr c9
   clear c9
   obtain rfl := Option.some.inj H
   go_enter Try.func111, Try.ntmps111
   go_wp2_with (first | ((with_reducible refine gate_dst (N := 2) rfl ?_); refine bx (N := 2) (cs := #[.int .i64 a0_0, .int .i64 a0_1, .int .i64 a0_2, .int .i64 a0_3, .int .i64 a0_4, .int .i64 a0_5]) (t := 55) ?_; intro gb197 hg w10 hbox hb; have BK197 := As_.mk (hbox); have GW197 := As_.mk ((z111_0 : w.heap.size ≤ gb197)); have GE197 := As_.mk ((z111_0 : w.heap.size ≤ gb197)); replace HB := As_.mk (below_step sqh hb); clear hb hbox hg) | ((with_reducible refine gate_dst (N := 3) rfl ?_); refine bx (N := 3) (cs := #[.int .i64 a1_0, .int .i64 a1_1, .int .i64 a1_2, .int .i64 a1_3, .int .i64 a1_4, .int .i64 a1_5]) (t := 55) ?_; intro gb198 hg w11 hbox hb; have BK198 := As_.mk (hbox); have GW198 := As_.mk ((z111_0 : w.heap.size ≤ gb198)); have GE198 := As_.mk ((z111_0 : w.heap.size ≤ gb198)); replace HB := As_.mk (below_step sqh hb); have NB197_198 := As_.mk ((by rw [hg]; exact Nat.ne_of_lt (blk_lt (bo BK197)) : gb197 ≠ gb198)); have NB198_197 := As_.mk ((by rw [hg]; exact Nat.ne_of_gt (blk_lt (bo BK197)) : gb198 ≠ gb197)); replace BK197 := As_.mk (blk_below (bo BK197) hb); clear hb hbox hg; have hnb12 := NB197_198.out; have hnc12 := NB198_197.out; obtain ⟨hcz13_0, hcz13_1, hcz13_2, hcz13_3, hcz13_4, hcz13_5, hfz13_0, hfz13_1, hfz13_2, hfz13_3, hfz13_4, hfz13_5⟩ := sd6 BK197.out; obtain ⟨hcz14_0, hcz14_1, hcz14_2, hcz14_3, hcz14_4, hcz14_5, hfz14_0, hfz14_1, hfz14_2, hfz14_3, hfz14_4, hfz14_5⟩ := sd6 BK198.out))
   go_ret
   exact ⟨sqe, sqh⟩
  ·rw [if_neg c9] at H
   have c9b0 : (a0_4 == a1_4) = false := beq_eq_false_iff_ne.mpr c9
   have c9b1 : (a0_4 != a1_4) = true := bne_iff_ne.mpr c9
   obtain rfl := Option.some.inj H
   go_enter Try.func111, Try.ntmps111
   go_wp2_with (first | ((with_reducible refine gate_dst (N := 2) rfl ?_); refine bx (N := 2) (cs := #[.int .i64 a0_0, .int .i64 a0_1, .int .i64 a0_2, .int .i64 a0_3, .int .i64 a0_4, .int .i64 a0_5]) (t := 55) ?_; intro gb197 hg w15 hbox hb; have BK197 := As_.mk (hbox); have GW197 := As_.mk ((z111_0 : w.heap.size ≤ gb197)); have GE197 := As_.mk ((z111_0 : w.heap.size ≤ gb197)); replace HB := As_.mk (below_step sqh hb); clear hb hbox hg) | ((with_reducible refine gate_dst (N := 3) rfl ?_); refine bx (N := 3) (cs := #[.int .i64 a1_0, .int .i64 a1_1, .int .i64 a1_2, .int .i64 a1_3, .int .i64 a1_4, .int .i64 a1_5]) (t := 55) ?_; intro gb198 hg w16 hbox hb; have BK198 := As_.mk (hbox); have GW198 := As_.mk ((z111_0 : w.heap.size ≤ gb198)); have GE198 := As_.mk ((z111_0 : w.heap.size ≤ gb198)); replace HB := As_.mk (below_step sqh hb); have NB197_198 := As_.mk ((by rw [hg]; exact Nat.ne_of_lt (blk_lt (bo BK197)) : gb197 ≠ gb198)); have NB198_197 := As_.mk ((by rw [hg]; exact Nat.ne_of_gt (blk_lt (bo BK197)) : gb198 ≠ gb197)); replace BK197 := As_.mk (blk_below (bo BK197) hb); clear hb hbox hg; have hnb17 := NB197_198.out; have hnc17 := NB198_197.out; obtain ⟨hcz18_0, hcz18_1, hcz18_2, hcz18_3, hcz18_4, hcz18_5, hfz18_0, hfz18_1, hfz18_2, hfz18_3, hfz18_4, hfz18_5⟩ := sd6 BK197.out; obtain ⟨hcz19_0, hcz19_1, hcz19_2, hcz19_3, hcz19_4, hcz19_5, hfz19_0, hfz19_1, hfz19_2, hfz19_3, hfz19_4, hfz19_5⟩ := sd6 BK198.out))
   go_ret
   exact ⟨sqe, sqh⟩

/-! ### impl_Fact: function 112 -/
-- XIMPORT Derived.Shelf.Spec.SlicesInsertGrow
theorem impl_Fact.iInfo : (Try.prog.info? 55).map (fun i => (i.zero, i.size, i.bytes)) = some (some (.agg #[.int .i64 0, .int .i64 0, .int .i64 0, .int .i64 0, .int .i64 0, .int .i64 0]), 6, 48) := by kernel_rfl
theorem impl_Fact.iSize (w : World) : (Go.sizeOf 55).run Try.prog w = .ok 6 w := by
 obtain ⟨i0, hi0, hzz⟩ := Option.map_eq_some_iff.1 impl_Fact.iInfo
 simp only [Prod.mk.injEq] at hzz
 simp [Go.sizeOf, Go.typeInfo, hi0, hzz.2.1]
/-- copy at elements of several cells. -/
theorem impl_Fact.copy (w : World) (dT sT ty : TypeId) (b o dLen dCap : Nat) (a : Addr) (sLen sCap : Nat) (cs : List Value)
  (hu : Try.prog.underlying dT = some (.slice 55)) (hn : cs.length = Nat.min sLen dLen * 6)
  (hsrc : ∀ j v, cs[j]? = some v → w.cell? (a.add j) = some v) (hc : ∀ j, j < cs.length → (w.cell? ⟨b, o + j, none⟩).isSome = true) (hf : ∀ j, j < cs.length → w.frozen? ⟨b, o + j, none⟩ = false) (h1 : ∀ v ∈ cs, v.oneCell' = true) :
  (Builtin.copy_ #[dT, sT] ty #[.slice (some ⟨b, o, none⟩) dLen dCap, .slice (some a) sLen sCap]).run Try.prog w = .ok (goInt (Nat.min sLen dLen)) (w.setCells b o cs) := by
 have hl := run_loadCells_list (P := Try.prog) w a cs hsrc
 have hst := run_storeCells_cells (P := Try.prog) b o cs 0 w (by simpa using hc) (by simpa using hf) h1
 obtain ⟨i0, hi0, hzz⟩ := Option.map_eq_some_iff.1 impl_Fact.iInfo
 simp only [Prod.mk.injEq] at hzz
 simp [Builtin.copy_, run_underlying hu, Builtin.lenOf, Builtin.firstCells, Go.sizeOf, Go.typeInfo, hi0, hzz.2.1, ← hn, hl, hst]
set_option maxHeartbeats 4000000 in
set_option maxRecDepth 100000 in
/-- There is room, i < len(s): in place. -/
theorem impl_Fact.shift (g n c i vb vc : Nat) (cs vs : List Value) (w : World) (hi : i < n) (hroom : n + 1 ≤ c) (hc63 : c ≤ 9223372036854775807) (hvb : vb ≠ g)
  (hcl : cs.length = n * 6) (hvl : vs.length = 6)
  (hcs : ∀ j v, cs[j]? = some v → w.cell? ⟨g, j, none⟩ = some v) (hsp : ∀ j, j < (n + 1) * 6 → (w.cell? ⟨g, j, none⟩).isSome = true) (hfz : ∀ j, w.frozen? ⟨g, j, none⟩ = false)
  (hvs : ∀ j v, vs[j]? = some v → w.cell? ⟨vb, j, none⟩ = some v) (h1c : ∀ v ∈ cs, v.oneCell' = true) (h1v : ∀ v ∈ vs, v.oneCell' = true)
  (tA tB : TypeId) (kA kB : Nat) (hsa : w.shape? vb = some (tA, kA)) (hsb : w.shape? g = some (tB, kB)) (hkB : kB ≠ 0) (hfa : w.frozen? ⟨vb, 0, none⟩ = false) (hfe : w.frozen? ⟨vb, kA, none⟩ = false) :
  Calls Try.prog 112 #[.slice (some ⟨g, 0, none⟩) n c, .int .i64 i, .slice (some ⟨vb, 0, none⟩) 1 vc] w fun e w' =>
   e = .returned (.slice (some ⟨g, 0, none⟩) (n + 1) c) ∧ w' = (w.drew.setCells g ((i + 1) * 6) (cs.drop (i * 6))).setCells g (i * 6) vs := by
 have u46 := Try.underlying28
 have hz2 : ¬ ((i : Int) = (n : Int)) := by omega
 have mixed : Try.prog.follows .mixedOrders = true := by kernel_rfl
 have hov : ∀ lb cb, (callFunc 127 #[.slice (some ⟨vb, 0, none⟩) 1 vc, .slice (some ⟨g, (i + 1) * 6, none⟩) lb cb]).run Try.prog w = .ok (.value (.bool false)) w := fun lb cb => by
  rw [run_callFunc_extern Try.func127 (by kernel_rfl) (by kernel_rfl) (by kernel_rfl) (e := Extern.SlicesOverlaps.overlaps #[28, 28] #[4]) (by kernel_rfl),
   Lib.run_overlaps_apart w 28 4 55 Try.underlying28 6 impl_Fact.iSize ⟨vb, 0, none⟩ ⟨g, (i + 1) * 6, none⟩ 1 vc lb cb hvb tA tB kA kB hsa hsb hkB hfa hfe]
  rfl
 have hdl : (cs.drop (i * 6)).length = (n - i) * 6 := by rw [List.length_drop, hcl, Nat.sub_mul]
 have hw1 : IntKind.i64.wrap ((i : Int) + 1) = (i : Int) + 1 := by rw [IntKind.wrap_i64]; omega
 have hw2 : IntKind.i64.wrap ((n : Int) + 1) = (n : Int) + 1 := by rw [IntKind.wrap_i64]; omega
 have hin : i ≤ n := by omega
 have hb2 : ¬ (c = i + 1) := by omega
 have hb4 : ¬ (c = i) := by omega
 have hb1 : (0 : Int) ≤ (i : Int) + 1 := by omega
 have htn : ((i : Int) + 1).toNat = i + 1 := by omega
 have hb3 : (i : Int) ≤ (n : Int) + 1 := by omega
 have hb5 : (i : Int) ≤ (n : Int) := by omega
 have hm1 : Nat.min (n + 1 - i) (n + 1 - (i + 1)) = n - i := by show min _ _ = _; omega
 have hm2 : Nat.min 1 (n + 1 - i) = 1 := by show min _ _ = _; omega
 have e1 : (n - i) * 6 = n * 6 - i * 6 := Nat.sub_mul _ _ _
 have hcp1 : ∀ ty dc sc, (Builtin.copy_ #[28, 28] ty #[.slice (some ⟨g, (i + 1) * 6, none⟩) (n + 1 - (i + 1)) dc, .slice (some ⟨g, i * 6, none⟩) (n + 1 - i) sc]).run Try.prog w.drew = .ok (goInt (Nat.min (n + 1 - i) (n + 1 - (i + 1)))) (w.drew.setCells g ((i + 1) * 6) (cs.drop (i * 6))) := fun ty dc sc =>
  impl_Fact.copy w.drew _ _ ty g ((i + 1) * 6) (n + 1 - (i + 1)) dc ⟨g, i * 6, none⟩ (n + 1 - i) sc (cs.drop (i * 6)) u46 (by rw [hdl, hm1])
   (fun j v hj => by rw [Addr.add_lit]; exact hcs (i * 6 + j) v (by rwa [List.getElem?_drop] at hj))
   (fun j hj => hsp _ (by rw [hdl] at hj; omega)) (fun j hj => hfz _) (fun v hv => h1c v (List.mem_of_mem_drop hv))
 obtain ⟨W1, hW1⟩ : ∃ W1, W1 = w.drew.setCells g ((i + 1) * 6) (cs.drop (i * 6)) := ⟨_, rfl⟩
 have hsp1 : ∀ k, k < (n + 1) * 6 → (W1.cell? ⟨g, k, none⟩).isSome = true := fun k hk => by
  rw [hW1]
  exact isSome_setCells g (cs.drop (i * 6)) ((i + 1) * 6) w.drew (fun j hj => hsp _ (by rw [hdl] at hj; omega)) k (hsp k hk)
 have hcp2 : ∀ (W : World), (∀ x, W.cell? x = W1.cell? x) → (∀ x, W.frozen? x = W1.frozen? x) → ∀ ty dc, (Builtin.copy_ #[28, 28] ty #[.slice (some ⟨g, i * 6, none⟩) (n + 1 - i) dc, .slice (some ⟨vb, 0, none⟩) 1 vc]).run Try.prog W = .ok (goInt (Nat.min 1 (n + 1 - i))) (W.setCells g (i * 6) vs) := fun W hWc hWf ty dc =>
  impl_Fact.copy W _ _ ty g (i * 6) (n + 1 - i) dc ⟨vb, 0, none⟩ 1 vc vs u46 (by rw [hvl, hm2, Nat.one_mul])
   (fun j v hj => by
    rw [Addr.add_lit, hWc, hW1, World.cell?_setCells_out g _ _ _ _ (fun h _ => absurd h hvb), Nat.zero_add]
    exact hvs j v hj)
   (fun j hj => by rw [hWc]; exact hsp1 _ (by rw [hvl] at hj; omega)) (fun j hj => by rw [hWf, hW1, World.frozen?_setCells]; exact hfz _) h1v
 rw [← hW1] at hcp1
 go_enter Try.func112, Try.ntmps112
 go_wp2_with (simp only [hov])
 go_region_law_o (refine step_copy_runI rfl _ _ 28 28 rfl (.slice (some ⟨g, (i + 1) * 6, none⟩) (n + 1 - (i + 1)) (c - (i + 1))) (.slice (some ⟨g, i * 6, none⟩) (n + 1 - i) (c - i)) (by simp [Act.eval, Act.put]) (by simp [Act.eval, Act.put]) (hcp1 3 (c - (i + 1)) (c - i)) ?_)
 go_wp2_with (at_builtin; refine wpList_copy_runI _ rfl _ _ 28 28 rfl _ _ rfl rfl (hcp2 _ (fun _ => rfl) (fun _ => rfl) _ _) ?_)
 go_ret
 first | exact ⟨rfl, rfl⟩ | exact ⟨rfl, by rw [hW1]⟩
set_option maxHeartbeats 4000000 in
set_option maxRecDepth 100000 in
/-- i < len(s), no room: a new row. -/
theorem impl_Fact.grow (g n c i vb vc : Nat) (cs vs : List Value) (w : World) (hi : i < n) (hnc : n ≤ c) (hroom : c < n + 1) (hbig : (n + 1) * 48 ≤ 140737488355328)
  (hcl : cs.length = n * 6) (hvl : vs.length = 6)
  (hcs : ∀ j v, cs[j]? = some v → w.cell? ⟨g, j, none⟩ = some v)
  (hvs : ∀ j v, vs[j]? = some v → w.cell? ⟨vb, j, none⟩ = some v) (h1c : ∀ v ∈ cs, v.oneCell' = true) (h1v : ∀ v ∈ vs, v.oneCell' = true) :
  Calls Try.prog 112 #[.slice (some ⟨g, 0, none⟩) n c, .int .i64 i, .slice (some ⟨vb, 0, none⟩) 1 vc] w fun e w' =>
   e = .returned (.slice (some ⟨w.heap.size, 0, none⟩) (n + 1) (grownCap w (n + 1) c 55)) ∧
   w' = (((w.alloc (.cells ((cs.take (i * 6)).toArray ++ Builtin.zeroCells (Value.cells (.agg #[.int .i64 0, .int .i64 0, .int .i64 0, .int .i64 0, .int .i64 0, .int .i64 0])) (n + 1 - i) ++ Builtin.zeroCells (Value.cells (.agg #[.int .i64 0, .int .i64 0, .int .i64 0, .int .i64 0, .int .i64 0, .int .i64 0])) (grownCap w (n + 1) c 55 - (n + 1))) 55)).drew.setCells w.heap.size (i * 6) vs).drew).setCells w.heap.size ((i + 1) * 6) (cs.drop (i * 6)) := by
 have u46 := Try.underlying28
 have mixed : Try.prog.follows .mixedOrders = true := by kernel_rfl
 obtain ⟨i0, hi0, hzz⟩ := Option.map_eq_some_iff.1 impl_Fact.iInfo
 simp only [Prod.mk.injEq] at hzz
 obtain ⟨hz0, hzs, hzb⟩ := hzz
 have hz2 : ¬ ((i : Int) = (n : Int)) := by omega
 have hz3 : (c : Int) < (n : Int) + 1 := by omega
 have hbw : g < w.heap.size := World.block_lt_of_cell? w ⟨g, 0, none⟩ (hcs 0 _ (List.getElem?_eq_getElem (by omega)))
 have hvw : vb < w.heap.size := World.block_lt_of_cell? w ⟨vb, 0, none⟩ (hvs 0 _ (List.getElem?_eq_getElem (by omega)))
 have hkk : (n : Int) + 1 - (i : Int) = ((n + 1 - i : Nat) : Int) := by omega
 have hik : i + (n + 1 - i) = n + 1 := by omega
 have htl : (cs.take (i * 6)).length = i * 6 := by rw [List.length_take]; omega
 have hdl : (cs.drop (i * 6)).length = (n - i) * 6 := by rw [List.length_drop, hcl, Nat.sub_mul]
 have hold : (Builtin.firstCells i0.size i (.slice (some ⟨g, 0, none⟩) i c)).run Try.prog w.drew = .ok (cs.take (i * 6)).toArray w.drew := by
  rw [hzs]
  exact run_firstCells_some w.drew 6 i ⟨g, 0, none⟩ i c (cs.take (i * 6)) htl (fun j v hj => by
   rw [Addr.add_lit, Nat.zero_add]
   rw [List.getElem?_take] at hj
   split at hj
   ·exact hcs j v hj
   ·cases hj)
 have hrz : ∀ ty, (Builtin.append_ #[28, 3] ty #[.slice (some ⟨g, 0, none⟩) i c, .int .i64 ((n : Int) + 1 - (i : Int))]).run Try.prog w =
   .ok (.slice (some ⟨w.heap.size, 0, none⟩) (n + 1) (grownCap w (n + 1) c 55)) (w.drew.alloc (.cells ((cs.take (i * 6)).toArray ++ Builtin.zeroCells (Value.cells (.agg #[.int .i64 0, .int .i64 0, .int .i64 0, .int .i64 0, .int .i64 0, .int .i64 0])) (n + 1 - i) ++ Builtin.zeroCells (Value.cells (.agg #[.int .i64 0, .int .i64 0, .int .i64 0, .int .i64 0, .int .i64 0, .int .i64 0])) (grownCap w (n + 1) c 55 - (n + 1))) 55)) := fun ty => by
  have h := Go.Lib.run_append_grow_zeros w 28 3 ty 55 i0 _ .i64 .i64 u46 Try.underlying3 hi0 hz0 (some ⟨g, 0, none⟩) i c (cs.take (i * 6)) hold (n + 1 - i) (by omega) (by omega) (by omega) (by omega) (by rw [hzb]; omega) (by rw [hzb, hik]; exact growslice_fits hroom hbig)
  rw [hik] at h
  rw [hkk]
  exact h
 have hGn : n + 1 ≤ grownCap w (n + 1) c 55 := grownCap_ge w _ _ _
 have hG63 : grownCap w (n + 1) c 55 ≤ 9223372036854775807 := by
  have := grownCap_le_maxLen w (n + 1) c 55 (by unfold maxLen; omega)
  unfold maxLen at this
  omega
 generalize grownCap w (n + 1) c 55 = G at hrz hGn hG63 ⊢
 obtain ⟨ROW, hROW⟩ : ∃ ROW : Array Value, ROW = (cs.take (i * 6)).toArray ++ Builtin.zeroCells (Value.cells (.agg #[.int .i64 0, .int .i64 0, .int .i64 0, .int .i64 0, .int .i64 0, .int .i64 0])) (n + 1 - i) ++ Builtin.zeroCells (Value.cells (.agg #[.int .i64 0, .int .i64 0, .int .i64 0, .int .i64 0, .int .i64 0, .int .i64 0])) (G - (n + 1)) := ⟨_, rfl⟩
 rw [← hROW] at hrz ⊢
 have hRl : (n + 1) * 6 ≤ ROW.size := by
  rw [hROW]
  simp only [Array.size_append, List.size_toArray, htl, size_zeroCells]
  have : (Value.cells (.agg #[.int .i64 0, .int .i64 0, .int .i64 0, .int .i64 0, .int .i64 0, .int .i64 0])).size = 6 := rfl
  rw [this]
  omega
 obtain ⟨W1, hW1⟩ : ∃ W1, W1 = w.drew.alloc (.cells ROW 55) := ⟨_, rfl⟩
 rw [← hW1] at hrz
 have hN : ∀ j, j < (n + 1) * 6 → (W1.cell? ⟨w.heap.size, j, none⟩).isSome = true := fun j hj => by
  rw [hW1, World.cell?_alloc_at (w := w.drew) ROW _ w.heap.size j rfl, Array.getElem?_eq_getElem (by omega)]; rfl
 have hNf : ∀ j, W1.frozen? ⟨w.heap.size, j, none⟩ = false := fun j => by rw [hW1]; exact World.frozen?_alloc_at (w := w.drew) ROW _ w.heap.size j rfl
 have hOb : ∀ j v, w.cell? ⟨g, j, none⟩ = some v → W1.cell? ⟨g, j, none⟩ = some v := fun j v h => by rw [hW1, World.cell?_alloc_past (w := w.drew) _ g j hbw]; exact h
 have hOv : ∀ j v, w.cell? ⟨vb, j, none⟩ = some v → W1.cell? ⟨vb, j, none⟩ = some v := fun j v h => by rw [hW1, World.cell?_alloc_past (w := w.drew) _ vb j hvw]; exact h
 have hm1 : Nat.min 1 (n + 1 - i) = 1 := by show min _ _ = _; omega
 have hm2 : Nat.min (n - i) (n + 1 - (i + 1)) = n - i := by show min _ _ = _; omega
 have hcpA : ∀ (W : World), (∀ x, W.cell? x = W1.cell? x) → (∀ x, W.frozen? x = W1.frozen? x) → ∀ ty dc, (Builtin.copy_ #[28, 28] ty #[.slice (some ⟨w.heap.size, i * 6, none⟩) (n + 1 - i) dc, .slice (some ⟨vb, 0, none⟩) 1 vc]).run Try.prog W = .ok (goInt (Nat.min 1 (n + 1 - i))) (W.setCells w.heap.size (i * 6) vs) := fun W hWc hWf ty dc =>
  impl_Fact.copy W _ _ ty w.heap.size (i * 6) (n + 1 - i) dc ⟨vb, 0, none⟩ 1 vc vs u46 (by rw [hvl, hm1, Nat.one_mul])
   (fun j v hj => by rw [Addr.add_lit, hWc, Nat.zero_add]; exact hOv _ v (hvs j v hj))
   (fun j hj => by rw [hWc]; exact hN _ (by rw [hvl] at hj; omega)) (fun j hj => by rw [hWf]; exact hNf _) h1v
 have hGi : ¬ (G = i) := by omega
 have hGim : ¬ (G = i + 1) := by omega
 have hci : ¬ (c = i) := by omega
 have hbN : g ≠ w.heap.size := by omega
 have hcpB : ∀ (W : World), (∀ x, W.cell? x = (W1.setCells w.heap.size (i * 6) vs).cell? x) → (∀ x, W.frozen? x = (W1.setCells w.heap.size (i * 6) vs).frozen? x) → ∀ ty dc sc, (Builtin.copy_ #[28, 28] ty #[.slice (some ⟨w.heap.size, (i + 1) * 6, none⟩) (n + 1 - (i + 1)) dc, .slice (some ⟨g, i * 6, none⟩) (n - i) sc]).run Try.prog W = .ok (goInt (Nat.min (n - i) (n + 1 - (i + 1)))) (W.setCells w.heap.size ((i + 1) * 6) (cs.drop (i * 6))) := fun W hWc hWf ty dc sc =>
  impl_Fact.copy W _ _ ty w.heap.size ((i + 1) * 6) (n + 1 - (i + 1)) dc ⟨g, i * 6, none⟩ (n - i) sc (cs.drop (i * 6)) u46 (by rw [hdl, hm2])
   (fun j v hj => by
    rw [Addr.add_lit, hWc, World.cell?_setCells_out _ _ _ _ _ (fun h _ => absurd h hbN)]
    exact hOb _ v (hcs (i * 6 + j) v (by rwa [List.getElem?_drop] at hj)))
   (fun j hj => by rw [hWc]; exact isSome_setCells w.heap.size vs (i * 6) W1 (fun t ht => hN _ (by rw [hvl] at ht; omega)) _ (hN _ (by rw [hdl] at hj; omega)))
   (fun j hj => by rw [hWf, World.frozen?_setCells]; exact hNf _) (fun v hv => h1c v (List.mem_of_mem_drop hv))
 subst hW1
 have hE1 : ∀ x, ((w.alloc (.cells ROW 55)).drew).cell? x = (w.drew.alloc (.cells ROW 55)).cell? x := fun x => rfl
 have hE2 : ∀ x, ((w.alloc (.cells ROW 55)).drew).frozen? x = (w.drew.alloc (.cells ROW 55)).frozen? x := fun x => rfl
 have hF1 : ∀ x, (((w.alloc (.cells ROW 55)).drew.setCells w.heap.size (i * 6) vs).drew).cell? x = ((w.drew.alloc (.cells ROW 55)).setCells w.heap.size (i * 6) vs).cell? x := fun x => rfl
 have hF2 : ∀ x, (((w.alloc (.cells ROW 55)).drew.setCells w.heap.size (i * 6) vs).drew).frozen? x = ((w.drew.alloc (.cells ROW 55)).setCells w.heap.size (i * 6) vs).frozen? x := fun x => rfl
 have hw1 : IntKind.i64.wrap ((i : Int) + 1) = (i : Int) + 1 := by rw [IntKind.wrap_i64]; omega
 have hw2 : IntKind.i64.wrap ((n : Int) + 1) = (n : Int) + 1 := by rw [IntKind.wrap_i64]; omega
 have hb1 : (0 : Int) ≤ (i : Int) + 1 := by omega
 have htn : ((i : Int) + 1).toNat = i + 1 := by omega
 have hb3 : (i : Int) ≤ (n : Int) := by omega
 have hb4 : (i : Int) ≤ (n : Int) + 1 := by omega
 clear hkk hik hold hROW hRl
 go_enter Try.func112, Try.ntmps112
 go_wp2_with (first
  | (at_builtin; refine Go.Lib.wpList_append_run _ rfl _ _ _ _ rfl _ _ rfl rfl _ _ (hrz _) ?_)
  | (at_builtin; refine wpList_copy_runI _ rfl _ _ 28 28 rfl _ _ rfl rfl (hcpA _ hE1 hE2 _ _) ?_)
  | (at_builtin; refine wpList_copy_runI _ rfl _ _ 28 28 rfl _ _ rfl rfl (hcpB _ (fun _ => rfl) (fun _ => rfl) _ _ _) ?_))
 go_region_law_o (refine step_copy_runI rfl _ _ 28 28 rfl (.slice (some ⟨w.heap.size, (i + 1) * 6, none⟩) (n + 1 - (i + 1)) (G - (i + 1))) (.slice (some ⟨g, i * 6, none⟩) (n - i) (c - i)) (by simp [Act.eval, Act.put]) (by simp [Act.eval, Act.put]) (hcpB _ hF1 hF2 3 (G - (i + 1)) (c - i)) ?_)
 go_wp2
 go_ret
 exact ⟨rfl, rfl⟩
theorem impl_Fact.flat {α : Type} {d : Kd α} (hE : d.E = []) {w w1 : World} {base : Nat} {ok ok' : Nat → Prop} {x : α} {cs : List Value} (h : d.M w base ok x cs) : d.M w1 base ok' x cs :=
 d.M_mono (fun k hk => by obtain ⟨_, _, _, q, hq, _⟩ := hk; rw [hE] at hq; cases hq) (d.M_move (fun k hk => by obtain ⟨_, _, _, q, hq, _⟩ := hk; rw [hE] at hq; cases hq) (d.M_bound h))
theorem impl_Fact.one {w : World} {base : Nat} {α : Type} {d : Kd α} {ok : Nat → Prop} {xs : List α} {cs : List Value} (h0 : 0 < d.sz) (h : Reps (d.M w base ok) d.sz xs cs) : ∀ u ∈ cs, u.oneCell' = true := by
 intro u hu
 obtain ⟨q, hq, rfl⟩ := List.mem_iff_getElem.1 hu
 have hql : q / d.sz < xs.length := by
  rw [Nat.div_lt_iff_lt_mul h0, ← h.1]
  exact hq
 refine d.K_one (d.K_of_M (h.2 (q / d.sz) _ (List.getElem?_eq_getElem hql))) _ ?_
 rw [List.mem_iff_getElem?]
 refine ⟨q % d.sz, ?_⟩
 rw [List.getElem?_take, if_pos (Nat.mod_lt _ h0), List.getElem?_drop, Nat.mul_comm, Nat.div_add_mod, List.getElem?_eq_getElem hq]
theorem impl_Fact.list (L D vs : List Value) (b z t : Nat) (hz : vs.length = z) (hb : b + z + D.length ≤ L.length) (ht : t = b + z + D.length) :
  ((L.take b ++ vs ++ L.drop (b + z)).take (b + z) ++ D ++ (L.take b ++ vs ++ L.drop (b + z)).drop (b + z + D.length)).take t = L.take b ++ vs ++ D := by
 have h1 : (L.take b ++ vs).length = b + z := by rw [List.length_append, List.length_take, hz]; omega
 have h2 : (L.take b ++ vs ++ L.drop (b + z)).take (b + z) = L.take b ++ vs := by rw [← h1]; exact List.take_left
 rw [h2, ht]
 have h3 : (L.take b ++ vs ++ D).length = b + z + D.length := by rw [List.length_append, h1]
 rw [← h3]
 exact List.take_left
theorem impl_Fact.list2 (L D vs : List Value) (b z t : Nat) (hz : vs.length = z) (hb : b + z + D.length ≤ L.length) (ht : t = b + z + D.length) :
  ((L.take (b + z) ++ D ++ L.drop (b + z + D.length)).take b ++ vs ++ (L.take (b + z) ++ D ++ L.drop (b + z + D.length)).drop (b + z)).take t = L.take b ++ vs ++ D := by
 have h1 : (L.take (b + z)).length = b + z := by rw [List.length_take]; omega
 have h2 : (L.take (b + z) ++ D ++ L.drop (b + z + D.length)).take b = L.take b := by
  rw [List.append_assoc, List.take_append_of_le_length (by omega), List.take_take, Nat.min_eq_left (by omega)]
 have h3 : (L.take (b + z) ++ D ++ L.drop (b + z + D.length)).drop (b + z) = D ++ L.drop (b + z + D.length) := by
  rw [List.append_assoc]
  exact List.drop_left' h1
 rw [h2, h3, ht, ← List.append_assoc]
 have h4 : (L.take b ++ vs ++ D).length = b + z + D.length := by rw [List.length_append, List.length_append, List.length_take, hz]; omega
 rw [← h4]
 exact List.take_left
set_option maxHeartbeats 4000000 in
set_option maxRecDepth 100000 in
/-- One element put into a row of one's own: the row's cells, in place or in a new row. -/
theorem impl_Fact.own (base : Nat) (u : Value) (n i vb vc : Nat) (cs vs : List Value) (w : World) (ho : w.ownsRow base 55 6 u n cs) (hi : i ≤ n) (hn : n ≤ 1000000000)
  (vcur : Array Value) (hvb : w.heap[vb]? = some (.cells vcur 55 (0, 0))) (hne : some vb ≠ u.ownBlock) (hvl : vs.length = 6) (hvc : vcur.toList.take 6 = vs) (h1c : ∀ v ∈ cs, v.oneCell' = true) (h1v : ∀ v ∈ vs, v.oneCell' = true) (hbase : base ≤ w.heap.size) :
  Calls Try.prog 112 #[u, .int .i64 i, .slice (some ⟨vb, 0, none⟩) 1 vc] w fun e w' =>
   ∃ v1, e = .returned v1 ∧ w'.ownsRow base 55 6 v1 (n + 1) (cs.take (i * 6) ++ vs ++ cs.drop (i * 6)) ∧ w.grownBy w' u.ownBlock ∧ (v1.ownBlock = u.ownBlock ∨ ∃ b, v1.ownBlock = some b ∧ w.heap.size ≤ b) := by
 have u46 := Try.underlying28
 have hcl := ho.1
 have hvs : ∀ j v, vs[j]? = some v → w.cell? ⟨vb, j, none⟩ = some v := fun j v hj => by
  rw [bC_ hvb j, ← Array.getElem?_toList]
  rw [← hvc, List.getElem?_take] at hj
  split at hj
  ·exact hj
  ·cases hj
 rcases Nat.lt_or_ge i n with hlt | hge
 ·obtain ⟨g, cap, cur, rfl, hgb, hh, hnc, hcm, hcs, htake⟩ : ∃ g cap cur, u = .slice (some ⟨g, 0, none⟩) n cap ∧ base ≤ g ∧ w.heap[g]? = some (.cells cur 55 (0, 0)) ∧ n ≤ cap ∧ cap ≤ maxLen ∧ cur.size = cap * 6 ∧ cur.toList.take (n * 6) = cs := by
   rcases ho.2 with ⟨_, h0⟩ | h
   ·omega
   ·exact h
  have hgv : vb ≠ g := fun e => hne (by rw [e]; rfl)
  have hcell : ∀ j v, cs[j]? = some v → w.cell? ⟨g, j, none⟩ = some v := fun j v hj => by
   rw [bC_ hh j, ← Array.getElem?_toList]
   rw [← htake, List.getElem?_take] at hj
   split at hj
   ·exact hj
   ·cases hj
  have hLl : cur.toList.length = cap * 6 := by simpa using hcs
  have htk : cs.take (i * 6) = cur.toList.take (i * 6) := by rw [← htake, List.take_take, Nat.min_eq_left (by omega)]
  have hdl : (cs.drop (i * 6)).length = (n - i) * 6 := by rw [List.length_drop, hcl, Nat.sub_mul]
  unfold maxLen at hcm
  rcases Nat.lt_or_ge cap (n + 1) with hroom | hroom
  ·have hsz0 : (Value.cells (.agg #[.int .i64 0, .int .i64 0, .int .i64 0, .int .i64 0, .int .i64 0, .int .i64 0])).size = 6 := rfl
   refine (impl_Fact.grow g n cap i vb vc cs vs w hlt hnc hroom (by omega) hcl hvl hcell hvs h1c h1v).mono ?_
   rintro e w' ⟨rfl, rfl⟩
   have hGn : n + 1 ≤ grownCap w (n + 1) cap 55 := grownCap_ge w _ _ _
   have hGm : grownCap w (n + 1) cap 55 ≤ maxLen := grownCap_le_maxLen w (n + 1) cap 55 (by unfold maxLen; omega)
   generalize grownCap w (n + 1) cap 55 = G at hGn hGm ⊢
   have hnew := heap_alloc_new w (.cells ((cs.take (i * 6)).toArray ++ Builtin.zeroCells (Value.cells (.agg #[.int .i64 0, .int .i64 0, .int .i64 0, .int .i64 0, .int .i64 0, .int .i64 0])) (n + 1 - i) ++ Builtin.zeroCells (Value.cells (.agg #[.int .i64 0, .int .i64 0, .int .i64 0, .int .i64 0, .int .i64 0, .int .i64 0])) (G - (n + 1))) 55)
   have hRs : ((cs.take (i * 6)).toArray ++ Builtin.zeroCells (Value.cells (.agg #[.int .i64 0, .int .i64 0, .int .i64 0, .int .i64 0, .int .i64 0, .int .i64 0])) (n + 1 - i) ++ Builtin.zeroCells (Value.cells (.agg #[.int .i64 0, .int .i64 0, .int .i64 0, .int .i64 0, .int .i64 0, .int .i64 0])) (G - (n + 1))).size = G * 6 := by
    simp only [Array.size_append, List.size_toArray, size_zeroCells, hsz0, List.length_take]
    omega
   have hRt : ((cs.take (i * 6)).toArray ++ Builtin.zeroCells (Value.cells (.agg #[.int .i64 0, .int .i64 0, .int .i64 0, .int .i64 0, .int .i64 0, .int .i64 0])) (n + 1 - i) ++ Builtin.zeroCells (Value.cells (.agg #[.int .i64 0, .int .i64 0, .int .i64 0, .int .i64 0, .int .i64 0, .int .i64 0])) (G - (n + 1))).toList.take (i * 6) = cs.take (i * 6) := by
    simp only [Array.toList_append, List.append_assoc]
    rw [List.take_append_of_le_length (by simp; omega)]
    show (cs.take (i * 6)).take (i * 6) = _
    rw [List.take_take, Nat.min_self]
   have hold : ∀ k, k < w.heap.size → (w.alloc (.cells ((cs.take (i * 6)).toArray ++ Builtin.zeroCells (Value.cells (.agg #[.int .i64 0, .int .i64 0, .int .i64 0, .int .i64 0, .int .i64 0, .int .i64 0])) (n + 1 - i) ++ Builtin.zeroCells (Value.cells (.agg #[.int .i64 0, .int .i64 0, .int .i64 0, .int .i64 0, .int .i64 0, .int .i64 0])) (G - (n + 1))) 55)).heap[k]? = w.heap[k]? := fun k hk => heap_alloc_old w _ hk
   generalize (cs.take (i * 6)).toArray ++ Builtin.zeroCells (Value.cells (.agg #[.int .i64 0, .int .i64 0, .int .i64 0, .int .i64 0, .int .i64 0, .int .i64 0])) (n + 1 - i) ++ Builtin.zeroCells (Value.cells (.agg #[.int .i64 0, .int .i64 0, .int .i64 0, .int .i64 0, .int .i64 0, .int .i64 0])) (G - (n + 1)) = ROW at hnew hRs hRt hold ⊢
   have hRl : ROW.toList.length = G * 6 := by simpa using hRs
   obtain ⟨c1, h1, h2, h3⟩ := setCells_row vs (i * 6) (w.alloc (.cells ROW 55)).drew ROW hnew (by rw [hvl, hRs]; omega)
   obtain ⟨c2, h4, h5, h6⟩ := setCells_row (cs.drop (i * 6)) ((i + 1) * 6) ((w.alloc (.cells ROW 55)).drew.setCells w.heap.size (i * 6) vs).drew c1 h1 (by rw [hdl, h2, hRs]; omega)
   refine ⟨_, rfl, ⟨by rw [List.length_append, List.length_append, List.length_take, hdl, hvl, hcl]; omega, .inr ⟨w.heap.size, G, c2, rfl, hbase, h4, hGn, hGm, by rw [h5, h2, hRs], ?_⟩⟩, ?_, .inr ⟨w.heap.size, rfl, Nat.le_refl _⟩⟩
   ·have := impl_Fact.list ROW.toList (cs.drop (i * 6)) vs (i * 6) 6 ((n + 1) * 6) hvl (by rw [hdl, hRl]; omega) (by rw [hdl]; omega)
    rw [hRt] at this
    rw [h6, h3, hvl, hRt, show (i + 1) * 6 = i * 6 + 6 by omega]
    exact this
   ·obtain ⟨a1, a2, a3, a4⟩ := setCells_same w.heap.size vs (i * 6) (w.alloc (.cells ROW 55)).drew
    obtain ⟨b1, b2, b3, b4⟩ := setCells_same w.heap.size (cs.drop (i * 6)) ((i + 1) * 6) ((w.alloc (.cells ROW 55)).drew.setCells w.heap.size (i * 6) vs).drew
    refine ⟨b1.trans a1, b2.trans a2, b3.trans a3, ?_, fun k hk hkn => ?_⟩
    ·rw [b4]
     show w.heap.size ≤ ((w.alloc (.cells ROW 55)).drew.setCells w.heap.size (i * 6) vs).heap.size
     rw [a4]
     show w.heap.size ≤ (w.alloc (.cells ROW 55)).heap.size
     simp
    ·rw [setCells_far _ _ k (by omega)]
     show ((w.alloc (.cells ROW 55)).drew.setCells w.heap.size (i * 6) vs).heap[k]? = _
     rw [setCells_far _ _ k (by omega)]
     exact hold k hk
  ·refine (impl_Fact.shift g n cap i vb vc cs vs w hlt hroom (by omega) hgv hcl hvl hcell (fun j hj => ?_) (fun j => bF_ hh j) hvs h1c h1v 55 55 vcur.size cur.size ?_ ?_ (by rw [hcs]; omega) (bF_ hvb _) (bF_ hvb _)).mono ?_
   ·rw [bC_ hh j, Array.getElem?_eq_getElem (by rw [hcs]; omega)]
    rfl
   ·simp [World.shape?, hvb]
   ·simp [World.shape?, hh]
   rintro e w' ⟨rfl, rfl⟩
   obtain ⟨c1, h1, h2, h3⟩ := setCells_row (cs.drop (i * 6)) ((i + 1) * 6) w.drew cur hh (by rw [hdl, hcs]; omega)
   obtain ⟨c2, h4, h5, h6⟩ := setCells_row vs (i * 6) (w.drew.setCells g ((i + 1) * 6) (cs.drop (i * 6))) c1 h1 (by rw [hvl, h2, hcs]; omega)
   refine ⟨_, rfl, ⟨by rw [List.length_append, List.length_append, List.length_take, hdl, hvl, hcl]; omega, .inr ⟨g, cap, c2, rfl, hgb, h4, hroom, by unfold maxLen; omega, by rw [h5, h2, hcs], ?_⟩⟩, ?_, .inl rfl⟩
   ·have := impl_Fact.list2 cur.toList (cs.drop (i * 6)) vs (i * 6) 6 ((n + 1) * 6) hvl (by rw [hdl, hLl]; omega) (by rw [hdl]; omega)
    rw [h6, h3, hvl, htk, show (i + 1) * 6 = i * 6 + 6 by omega]
    exact this
   ·obtain ⟨a1, a2, a3, a4⟩ := setCells_same g (cs.drop (i * 6)) ((i + 1) * 6) w.drew
    obtain ⟨b1, b2, b3, b4⟩ := setCells_same g vs (i * 6) (w.drew.setCells g ((i + 1) * 6) (cs.drop (i * 6)))
    refine ⟨b1.trans a1, b2.trans a2, b3.trans a3, ?_, fun k hk hkn => ?_⟩
    ·rw [b4, a4]
     exact Nat.le_refl _
    ·have hkg : k ≠ g := fun e => hkn (by rw [e]; rfl)
     rw [setCells_far _ _ k hkg, setCells_far _ _ k hkg]
     rfl
 ·obtain rfl : i = n := by omega
  obtain ⟨i0, hi0, hzz⟩ := Option.map_eq_some_iff.1 impl_Fact.iInfo
  simp only [Prod.mk.injEq] at hzz
  obtain ⟨hz0, hzs, hzb⟩ := hzz
  have hfit : cs.take (i * 6) ++ vs ++ cs.drop (i * 6) = cs ++ vs := by
   rw [List.take_of_length_le (by omega), List.drop_of_length_le (by omega), List.append_nil]
  rw [hfit]
  have hio : (i : Int) ≤ (i : Int) := Int.le_refl _
  have HO := As_.mk ho
  obtain ⟨A, c, rfl⟩ := own_slice ho
  have hic : i ≤ c := own_le ho
  have HV := As_.mk hvs
  have H1 := As_.mk h1v
  have HL := As_.mk hvl
  have HBS := As_.mk hbase
  clear ho hvs h1v hvl h1c hne hvb hvc hfit hcl hge hi hbase
  go_enter Try.func112, Try.ntmps112
  rcases A with _ | ⟨g, off, sp⟩
  all_goals (go_wp2_with (at_builtin; refine wpList_append_own_at w rfl _ _ 28 rfl base 55 i0 (.agg #[.int .i64 0, .int .i64 0, .int .i64 0, .int .i64 0, .int .i64 0, .int .i64 0]) 6 48 u46 hi0 hz0 hzs hzb rfl (by omega) _ i cs rfl HO.out ⟨vb, 0, none⟩ 1 vc vs rfl (by rw [HL.out]) (fun j u hj => by rw [Addr.add_lit, Nat.zero_add]; exact HV.out j u hj) H1.out (by unfold maxLen; omega) (by omega) HBS.out ?_; intro v1 w1 hown hg _ hat))
  all_goals (go_ret; exact ⟨v1, rfl, hown, hg, by rcases hat with hat | hat; exact .inl hat; exact .inr ⟨_, hat, Nat.le_refl _⟩⟩)
/-- Insert of one element into a row of the call's own. -/
def impl_Fact.f (l0 : List S55) (a1 : Int) (l2 : List S55) : Option (List S55) := if 0 ≤ a1 ∧ a1 ≤ l0.length ∧ l2.length = 1 ∧ l0.length ≤ 1000000000 then some (l0.take a1.toNat ++ l2 ++ l0.drop a1.toNat) else none
set_option maxHeartbeats 8000000 in
set_option maxRecDepth 100000 in
theorem impl_Fact.calls (P0_ : Nat → Prop) (u9000_ : Value) (l0 : List S55) (a1 : Int) (P2_ : Nat → Prop) (u9001_ : Value) (l2 : List S55) (r : List S55) (w0 w : World) (hB : Below w0.heap.size w0 w) (ho0 : Kd.R k55 55 w w0.heap.size P0_ u9000_ l0) (hp0_2 : ∀ k_, P0_ k_ → ¬ P2_ k_) (ho2 : Kd.R k55 55 w w0.heap.size P2_ u9001_ l2) (hp2_0 : ∀ k_, P2_ k_ → ¬ P0_ k_) (h : impl_Fact.f l0 a1 l2 = some r) :
  Calls Try.prog 112 #[u9000_, .int .i64 a1, u9001_] w fun e w' => ∃ v0_ : Value, e = .returned (v0_) ∧ Kd.R k55 55 w' w0.heap.size (fun k_ => ((P0_ k_ ∨ P2_ k_) ∨ w.heap.size ≤ k_)) v0_ r ∧ Below w0.heap.size w0 w' ∧ Kept w w' (fun k_ => P0_ k_ ∨ P2_ k_) := by
 unfold impl_Fact.f at h
 split at h
 case isFalse => cases h
 rename_i hc
 obtain ⟨h0, h1, h2, h3⟩ := hc
 obtain rfl := Option.some.inj h
 clear h
 have hW : w0.heap.size ≤ w.heap.size := hB.size
 obtain ⟨i, rfl⟩ := Int.eq_ofNat_of_zero_le h0
 rw [Int.toNat_natCast]
 obtain ⟨hP0, cs, ho, hr⟩ := ho0
 obtain ⟨hP2, vs, hv, hq⟩ := ho2
 rw [h2] at hv
 have hvl : vs.length = 6 := (show vs.length = 1 * 6 from hv.1).trans (Nat.one_mul _)
 obtain ⟨vb, vc, vcur, rfl, hvg, hvb, hvn, hvm, hvs, hvt⟩ : ∃ vb vc vcur, u9001_ = .slice (some ⟨vb, 0, none⟩) 1 vc ∧ w0.heap.size ≤ vb ∧ w.heap[vb]? = some (.cells vcur 55 (0, 0)) ∧ 1 ≤ vc ∧ vc ≤ maxLen ∧ vcur.size = vc * 6 ∧ vcur.toList.take (1 * 6) = vs := by
  rcases hv.2 with ⟨_, h0⟩ | h
  ·omega
  ·exact h
 have hne : some vb ≠ u9000_.ownBlock := fun e => hp2_0 vb (hP2 vb rfl) (hP0 vb e.symm)
 have hK1 := impl_Fact.one (d := k55) (by decide) hr
 have hK2 := impl_Fact.one (d := k55) (by decide) hq
 refine (impl_Fact.own w0.heap.size u9000_ l0.length i vb vc cs vs w ho (by omega) h3 vcur hvb hne hvl (by rw [← hvt]) hK1 hK2 hW).mono ?_
 rintro e w' ⟨v1, rfl, ho', hg, hat⟩
 have hE : (k55).E = [] := rfl
 refine ⟨v1, rfl, ⟨fun k hk => ?_, _, ?_, Kd.reps_append (Kd.reps_append (Kd.reps_take (hr.imp_ fun _ _ hp => impl_Fact.flat hE hp) (by omega)) (hq.imp_ fun _ _ hp => impl_Fact.flat hE hp)) (Kd.reps_drop (hr.imp_ fun _ _ hp => impl_Fact.flat hE hp))⟩, hB.grown hg hW ?_, Kept.of_grown hg (Kept.refl w _) ?_⟩
 ·rcases hat with hat | ⟨b, hb, hbw⟩
  ·exact .inl (.inl (hP0 k (by rw [← hat]; exact hk)))
  ·rw [hb] at hk
   obtain rfl := Option.some.inj hk
   exact .inr hbw
 ·have hlen : (l0.take i ++ l2 ++ l0.drop i).length = l0.length + 1 := by simp only [List.length_append, List.length_take, List.length_drop]; omega
  rw [hlen]
  exact ho'
 ·exact fun k hk => own_base ho k hk
 ·exact fun k hk => .inl (.inl (hP0 k hk))

end Go.Proofs.Ytabpgiebhgkfhaa.XFnIssuers
