/- Written by this session's own program (wip/xprint, which runs over the kit's print): what the functions that the law reaches come to, each proved; and the law's row. Conditions: none. -/
import Derived.Test.YtabpgiebhgkfhaaUFnIssuersSq
import Derived.Test.YtabpgiebhgkfhaaUFnIssuersx0
namespace Go.Proofs.Ytabpgiebhgkfhaa.XFnIssuers
open Go.RowKit Go.Proofs.YtabpgiebhgkfhaaW.PrintWords Go.Proofs.YtabpgiebhgkfhaaW.PrintLast Go.Proofs.YtabpgiebhgkfhaaW.PrintMore Go.Proofs.YtabpgiebhgkfhaaSq
attribute [local go_sem] max2_int min2_int max_two min_two max_three min_three max_four min_four   -- for this text's walks alone
set_option linter.unusedVariables false
set_option linter.unusedSimpArgs false

/-! ### impl_compareClaims: function 126 -/
def cmpGo : List (Int × Int) → Int
 | [] => 0
 | p :: t => if p.1 < p.2 then -1 else if p.1 > p.2 then 1 else cmpGo t
def impl_compareClaims.f (a0_0 : Int) (a0_1 : Int) (a0_2 : Int) (a0_3 : Int) (a0_4 : Int) (a0_5 : Int) (a1_0 : Int) (a1_1 : Int) (a1_2 : Int) (a1_3 : Int) (a1_4 : Int) (a1_5 : Int) : Option (Int) := some (cmpGo [(a0_0, a1_0), (a0_1, a1_1), (a0_2, a1_2), (a0_3, a1_3)])
set_option maxHeartbeats 8000000 in
set_option maxRecDepth 100000 in
theorem impl_compareClaims.calls (a0_0 : Int) (a0_1 : Int) (a0_2 : Int) (a0_3 : Int) (a0_4 : Int) (a0_5 : Int) (a1_0 : Int) (a1_1 : Int) (a1_2 : Int) (a1_3 : Int) (a1_4 : Int) (a1_5 : Int) (r : Int) (w : World) (h : impl_compareClaims.f a0_0 a0_1 a0_2 a0_3 a0_4 a0_5 a1_0 a1_1 a1_2 a1_3 a1_4 a1_5 = some r) :
  Calls Try.prog 126 #[.agg #[.int .i64 a0_0, .int .i64 a0_1, .int .i64 a0_2, .int .i64 a0_3, .int .i64 a0_4, .int .i64 a0_5], .agg #[.int .i64 a1_0, .int .i64 a1_1, .int .i64 a1_2, .int .i64 a1_3, .int .i64 a1_4, .int .i64 a1_5]] w fun e w' => e = .returned (.int .i64 r) ∧ Below w.heap.size w w' := by
 have hu55 := Try.underlying55
 have huA := Try.underlying135
 have HB := As_.mk (Below.refl w.heap.size w)
 obtain rfl := Option.some.inj h
 clear h
 go_enter Try.func126, Try.ntmps126
 go_wp2_with (first | ((with_reducible refine gate_dst (N := 2) rfl ?_); refine bx (N := 2) (cs := #[.int .i64 a0_0, .int .i64 a0_1, .int .i64 a0_2, .int .i64 a0_3, .int .i64 a0_4, .int .i64 a0_5]) (t := 55) ?_; intro ga hg w1 hbox hb; have GEga := As_.mk (by rw [hg]; exact below_size HB.out : w.heap.size ≤ ga); replace HB := As_.mk (below_step HB.out hb); have BKga := As_.mk hbox; clear hg hb hbox) | ((with_reducible refine gate_dst (N := 3) rfl ?_); refine bx (N := 3) (cs := #[.int .i64 a1_0, .int .i64 a1_1, .int .i64 a1_2, .int .i64 a1_3, .int .i64 a1_4, .int .i64 a1_5]) (t := 55) ?_; intro gb hg w2 hbox hb; have GEgb := As_.mk (by rw [hg]; exact below_size HB.out : w.heap.size ≤ gb); replace BKga := As_.mk ((hb.block ga (Array.getElem?_eq_some_iff.1 BKga.out).1).trans BKga.out); replace HB := As_.mk (below_step HB.out hb); have BKgb := As_.mk hbox; clear hg hb hbox))
 have hb := below_drew (Below.refl w2.heap.size w2)
 replace BKga := As_.mk ((hb.block ga (Array.getElem?_eq_some_iff.1 BKga.out).1).trans BKga.out)
 replace BKgb := As_.mk ((hb.block gb (Array.getElem?_eq_some_iff.1 BKgb.out).1).trans BKgb.out)
 replace HB := As_.mk (below_step HB.out hb)
 clear hb
 refine start_ (n := 22) (S := fun w' => w'.cell? ⟨ga, 0, none⟩ = some (.int .i64 a0_0) ∧ w'.cell? ⟨ga, 1, none⟩ = some (.int .i64 a0_1) ∧ w'.cell? ⟨ga, 2, none⟩ = some (.int .i64 a0_2) ∧ w'.cell? ⟨ga, 3, none⟩ = some (.int .i64 a0_3) ∧ w'.cell? ⟨gb, 0, none⟩ = some (.int .i64 a1_0) ∧ w'.cell? ⟨gb, 1, none⟩ = some (.int .i64 a1_1) ∧ w'.cell? ⟨gb, 2, none⟩ = some (.int .i64 a1_2) ∧ w'.cell? ⟨gb, 3, none⟩ = some (.int .i64 a1_3)) (ds := []) #[false, false, false, false, false, false, false, false, false, false, false, false, false, false, false, false, false, false, false, false, false, false] sqk rfl rfl (sa4 BKga.out (sc4 BKgb.out)) (fun hHeld => ?_)
 generalize w2.drew = w3 at BKga BKgb HB hHeld ⊢
 refine pu 0 8 ?_; refine ta 1 9 ?_; refine pu 2 10 ?_; refine ta 3 11 ?_; refine pu 4 12 ?_; refine ta 5 13 ?_; refine pu 6 14 ?_; refine ta 7 15 ?_; refine pu 8 16 ?_; refine pu 9 17 ?_; refine ta 10 18 ?_; refine pu 11 19 ?_; refine ta 12 20 ?_; refine pu 13 21 ?_; refine ta 14 22 ?_; refine pu 15 23 ?_; refine ta 16 24 ?_; refine pu 17 25 ?_
 refine join_ (σ := Nat × Nat) 2 #[true, true, true, true, true, true, true, true, true, true, true, true, true, true, true, true, true, true, true, true, false, false] (fun s_ => [(5, .pointer (some ⟨s_.1, 0, none⟩)), (6, .pointer (some ⟨s_.2, 0, none⟩))]) (fun s_ w' => (w'.cell? ⟨ga, 0, none⟩ = some (.int .i64 a0_0) ∧ w'.cell? ⟨ga, 1, none⟩ = some (.int .i64 a0_1) ∧ w'.cell? ⟨ga, 2, none⟩ = some (.int .i64 a0_2) ∧ w'.cell? ⟨ga, 3, none⟩ = some (.int .i64 a0_3) ∧ w'.cell? ⟨gb, 0, none⟩ = some (.int .i64 a1_0) ∧ w'.cell? ⟨gb, 1, none⟩ = some (.int .i64 a1_1) ∧ w'.cell? ⟨gb, 2, none⟩ = some (.int .i64 a1_2) ∧ w'.cell? ⟨gb, 3, none⟩ = some (.int .i64 a1_3)) ∧ w'.heap[ga]? = some (.cells #[.int .i64 a0_0, .int .i64 a0_1, .int .i64 a0_2, .int .i64 a0_3, .int .i64 a0_4, .int .i64 a0_5] 55 (0, 0)) ∧ w'.heap[gb]? = some (.cells #[.int .i64 a1_0, .int .i64 a1_1, .int .i64 a1_2, .int .i64 a1_3, .int .i64 a1_4, .int .i64 a1_5] 55 (0, 0)) ∧ w'.heap[s_.1]? = some (.cells #[.int .i64 0, .int .i64 0, .int .i64 0, .int .i64 0] 135 (0, 0)) ∧ w'.heap[s_.2]? = some (.cells #[.int .i64 0, .int .i64 0, .int .i64 0, .int .i64 0] 135 (0, 0)) ∧ (s_.1 ≠ s_.2 ∧ w.heap.size ≤ s_.1 ∧ w.heap.size ≤ s_.2 ∧ ga ≠ s_.1 ∧ gb ≠ s_.1 ∧ ga ≠ s_.2 ∧ gb ≠ s_.2) ∧ Below w.heap.size w w') ?_ ?_
 rotate_left
 ·intro hCont
  refine two_ (i := 18) (j := 19) (Ni := some 5) (Nj := some 6) #[true, true, true, true, true, true, true, true, true, true, true, true, true, true, true, true, true, true, true, false, false, false] #[true, true, true, true, true, true, true, true, true, true, true, true, true, true, true, true, true, true, false, true, false, false] rfl rfl rfl rfl sqk (by decide) (by decide) (fun K hK => ?_) (fun K hK => ?_)
  ·skip
   refine box_step ?hg (N := 5) ?hd (cs := #[.int .i64 0, .int .i64 0, .int .i64 0, .int .i64 0]) (t := 135) ?hr ?_; (case hd => rfl); (case hg => rfl); (case hr => first | (go_simp; done) | (go_simp; rfl))
   intro gx hg w4 hbox hb
   have GEgx := As_.mk (by rw [hg]; exact below_size HB.out : w.heap.size ≤ gx)
   have NEgagx := As_.mk (by rw [hg]; exact Nat.ne_of_lt (Array.getElem?_eq_some_iff.1 BKga.out).1 : ga ≠ gx)
   replace BKga := As_.mk ((hb.block ga (Array.getElem?_eq_some_iff.1 BKga.out).1).trans BKga.out)
   have NEgbgx := As_.mk (by rw [hg]; exact Nat.ne_of_lt (Array.getElem?_eq_some_iff.1 BKgb.out).1 : gb ≠ gx)
   replace BKgb := As_.mk ((hb.block gb (Array.getElem?_eq_some_iff.1 BKgb.out).1).trans BKgb.out)
   replace HB := As_.mk (below_step HB.out hb)
   have BKgx := As_.mk hbox
   clear hg hb hbox
   refine hK.out _ _ (sa4 BKga.out (sc4 BKgb.out)) (fun hHeld => ?_)
   clear hK K; refine no 5 ?_
   refine on 19 (some 6) (fun K hK => ?_)
   refine box_step ?hg (N := 6) ?hd (cs := #[.int .i64 0, .int .i64 0, .int .i64 0, .int .i64 0]) (t := 135) ?hr ?_; (case hd => rfl); (case hg => rfl); (case hr => first | (go_simp; done) | (go_simp; rfl))
   intro gy hg w5 hbox hb
   have GEgy := As_.mk (by rw [hg]; exact below_size HB.out : w.heap.size ≤ gy)
   have NEgagy := As_.mk (by rw [hg]; exact Nat.ne_of_lt (Array.getElem?_eq_some_iff.1 BKga.out).1 : ga ≠ gy)
   replace BKga := As_.mk ((hb.block ga (Array.getElem?_eq_some_iff.1 BKga.out).1).trans BKga.out)
   have NEgbgy := As_.mk (by rw [hg]; exact Nat.ne_of_lt (Array.getElem?_eq_some_iff.1 BKgb.out).1 : gb ≠ gy)
   replace BKgb := As_.mk ((hb.block gb (Array.getElem?_eq_some_iff.1 BKgb.out).1).trans BKgb.out)
   have NE := As_.mk (by rw [hg]; exact Nat.ne_of_lt (Array.getElem?_eq_some_iff.1 BKgx.out).1 : gx ≠ gy)
   replace BKgx := As_.mk ((hb.block gx (Array.getElem?_eq_some_iff.1 BKgx.out).1).trans BKgx.out)
   replace HB := As_.mk (below_step HB.out hb)
   have BKgy := As_.mk hbox
   clear hg hb hbox
   refine hK.out _ _ (sa4 BKga.out (sc4 BKgb.out)) (fun hHeld => ?_)
   clear hK K; refine no 6 ?_
   exact norm_ (by simp only [putAll, Act.put, List.setIfInBounds_toArray, List.set_cons_zero, List.set_cons_succ]) (hCont (gx, gy) _ ⟨hHeld, BKga.out, BKgb.out, BKgx.out, BKgy.out, ⟨NE.out, GEgx.out, GEgy.out, NEgagx.out, NEgbgx.out, NEgagy.out, NEgbgy.out⟩, HB.out⟩)
  ·skip
   refine box_step ?hg (N := 6) ?hd (cs := #[.int .i64 0, .int .i64 0, .int .i64 0, .int .i64 0]) (t := 135) ?hr ?_; (case hd => rfl); (case hg => rfl); (case hr => first | (go_simp; done) | (go_simp; rfl))
   intro gy hg w4 hbox hb
   have GEgy := As_.mk (by rw [hg]; exact below_size HB.out : w.heap.size ≤ gy)
   have NEgagy := As_.mk (by rw [hg]; exact Nat.ne_of_lt (Array.getElem?_eq_some_iff.1 BKga.out).1 : ga ≠ gy)
   replace BKga := As_.mk ((hb.block ga (Array.getElem?_eq_some_iff.1 BKga.out).1).trans BKga.out)
   have NEgbgy := As_.mk (by rw [hg]; exact Nat.ne_of_lt (Array.getElem?_eq_some_iff.1 BKgb.out).1 : gb ≠ gy)
   replace BKgb := As_.mk ((hb.block gb (Array.getElem?_eq_some_iff.1 BKgb.out).1).trans BKgb.out)
   replace HB := As_.mk (below_step HB.out hb)
   have BKgy := As_.mk hbox
   clear hg hb hbox
   refine hK.out _ _ (sa4 BKga.out (sc4 BKgb.out)) (fun hHeld => ?_)
   clear hK K; refine no 6 ?_
   refine on 18 (some 5) (fun K hK => ?_)
   refine box_step ?hg (N := 5) ?hd (cs := #[.int .i64 0, .int .i64 0, .int .i64 0, .int .i64 0]) (t := 135) ?hr ?_; (case hd => rfl); (case hg => rfl); (case hr => first | (go_simp; done) | (go_simp; rfl))
   intro gx hg w5 hbox hb
   have GEgx := As_.mk (by rw [hg]; exact below_size HB.out : w.heap.size ≤ gx)
   have NEgagx := As_.mk (by rw [hg]; exact Nat.ne_of_lt (Array.getElem?_eq_some_iff.1 BKga.out).1 : ga ≠ gx)
   replace BKga := As_.mk ((hb.block ga (Array.getElem?_eq_some_iff.1 BKga.out).1).trans BKga.out)
   have NEgbgx := As_.mk (by rw [hg]; exact Nat.ne_of_lt (Array.getElem?_eq_some_iff.1 BKgb.out).1 : gb ≠ gx)
   replace BKgb := As_.mk ((hb.block gb (Array.getElem?_eq_some_iff.1 BKgb.out).1).trans BKgb.out)
   have NE := As_.mk (by rw [hg]; exact Nat.ne_of_lt (Array.getElem?_eq_some_iff.1 BKgy.out).1 : gy ≠ gx)
   replace BKgy := As_.mk ((hb.block gy (Array.getElem?_eq_some_iff.1 BKgy.out).1).trans BKgy.out)
   replace HB := As_.mk (below_step HB.out hb)
   have BKgx := As_.mk hbox
   clear hg hb hbox
   refine hK.out _ _ (sa4 BKga.out (sc4 BKgb.out)) (fun hHeld => ?_)
   clear hK K; refine no 5 ?_
   exact norm_ (by simp only [putAll, Act.put, List.setIfInBounds_toArray, List.set_cons_zero, List.set_cons_succ]) (hCont (gx, gy) _ ⟨hHeld, BKga.out, BKgb.out, BKgx.out, BKgy.out, ⟨Ne.symm NE.out, GEgx.out, GEgy.out, NEgagx.out, NEgbgx.out, NEgagy.out, NEgbgy.out⟩, HB.out⟩)
 rintro ⟨gx, gy⟩ w6 ⟨hS_, h0_, h1_, h2_, h3_, h4_, h5_⟩
 clear BKga BKgb HB hHeld
 have BKga : As_ (w6.heap[ga]? = some (.cells #[.int .i64 a0_0, .int .i64 a0_1, .int .i64 a0_2, .int .i64 a0_3, .int .i64 a0_4, .int .i64 a0_5] 55 (0, 0))) := ⟨h0_⟩
 have BKgb : As_ (w6.heap[gb]? = some (.cells #[.int .i64 a1_0, .int .i64 a1_1, .int .i64 a1_2, .int .i64 a1_3, .int .i64 a1_4, .int .i64 a1_5] 55 (0, 0))) := ⟨h1_⟩
 have BKgx : As_ (w6.heap[gx]? = some (.cells #[.int .i64 0, .int .i64 0, .int .i64 0, .int .i64 0] 135 (0, 0))) := ⟨h2_⟩
 have BKgy : As_ (w6.heap[gy]? = some (.cells #[.int .i64 0, .int .i64 0, .int .i64 0, .int .i64 0] 135 (0, 0))) := ⟨h3_⟩
 have NG : As_ ((gx ≠ gy ∧ w.heap.size ≤ gx ∧ w.heap.size ≤ gy ∧ ga ≠ gx ∧ gb ≠ gx ∧ ga ≠ gy ∧ gb ≠ gy)) := ⟨h4_⟩
 have HB : As_ (Below w.heap.size w w6) := ⟨h5_⟩
 have hHeld : w6.cell? ⟨ga, 0, none⟩ = some (.int .i64 a0_0) ∧ w6.cell? ⟨ga, 1, none⟩ = some (.int .i64 a0_1) ∧ w6.cell? ⟨ga, 2, none⟩ = some (.int .i64 a0_2) ∧ w6.cell? ⟨ga, 3, none⟩ = some (.int .i64 a0_3) ∧ w6.cell? ⟨gb, 0, none⟩ = some (.int .i64 a1_0) ∧ w6.cell? ⟨gb, 1, none⟩ = some (.int .i64 a1_1) ∧ w6.cell? ⟨gb, 2, none⟩ = some (.int .i64 a1_2) ∧ w6.cell? ⟨gb, 3, none⟩ = some (.int .i64 a1_3) := hS_
 clear hS_ h0_ h1_ h2_ h3_ h4_ h5_
 refine norm_ (a' := ?_) ?_ ?_
 rotate_left
 ·simp only [putAll, Act.put, List.setIfInBounds_toArray, List.set_cons_zero, List.set_cons_succ]
  rfl
 refine on 20 none (fun K hK => ?_)
 obtain ⟨hc0, hf0⟩ := sd1 BKgx.out
 have hc1 : w6.cell? ⟨gx, 1, none⟩ = some (.int .i64 0) := (bC_ BKgx.out 1).trans rfl
 have hf1 := bF_ BKgx.out 1
 have hc2 : w6.cell? ⟨gx, 2, none⟩ = some (.int .i64 0) := (bC_ BKgx.out 2).trans rfl
 have hf2 := bF_ BKgx.out 2
 have hc3 : w6.cell? ⟨gx, 3, none⟩ = some (.int .i64 0) := (bC_ BKgx.out 3).trans rfl
 have hf3 := bF_ BKgx.out 3
 refine skip_ (w1 := ((((w6.setCell ⟨gx, 0, none⟩ (.int .i64 a0_0)).setCell ⟨gx, 1, none⟩ (.int .i64 a0_1)).setCell ⟨gx, 2, none⟩ (.int .i64 a0_2)).setCell ⟨gx, 3, none⟩ (.int .i64 a0_3))) (by rfl) rfl ?_ ?_
 ·first | (go_simp; done) | (go_simp; rfl)
 obtain ⟨w7, hw⟩ : ∃ x, x = ((((w6.setCell ⟨gx, 0, none⟩ (.int .i64 a0_0)).setCell ⟨gx, 1, none⟩ (.int .i64 a0_1)).setCell ⟨gx, 2, none⟩ (.int .i64 a0_2)).setCell ⟨gx, 3, none⟩ (.int .i64 a0_3)) := ⟨_, rfl⟩
 rw [← hw]
 clear hc0 hc1 hc2 hc3 hf0 hf1 hf2 hf3
 replace HB : As_ (Below w.heap.size w w7) := ⟨by rw [hw]; exact bS_ (bS_ (bS_ (bS_ (HB.out) (NG.out.2.1)) (NG.out.2.1)) (NG.out.2.1)) (NG.out.2.1)⟩
 replace BKgx : As_ (w7.heap[gx]? = some (.cells #[.int .i64 a0_0, .int .i64 a0_1, .int .i64 a0_2, .int .i64 a0_3] 135 (0, 0))) := ⟨by rw [hw]; exact blk_put (cs := #[.int .i64 a0_0, .int .i64 a0_1, .int .i64 a0_2, .int .i64 0]) (blk_put (cs := #[.int .i64 a0_0, .int .i64 a0_1, .int .i64 0, .int .i64 0]) (blk_put (cs := #[.int .i64 a0_0, .int .i64 0, .int .i64 0, .int .i64 0]) (blk_put (cs := #[.int .i64 0, .int .i64 0, .int .i64 0, .int .i64 0]) (BKgx.out) 0 _ rfl) 1 _ rfl) 2 _ rfl) 3 _ rfl⟩
 replace BKgy : As_ (w7.heap[gy]? = some (.cells #[.int .i64 0, .int .i64 0, .int .i64 0, .int .i64 0] 135 (0, 0))) := ⟨by rw [hw]; refine (Below.heap_setCell _ _ _ gy (Ne.symm NG.out.1)).trans ?_; refine (Below.heap_setCell _ _ _ gy (Ne.symm NG.out.1)).trans ?_; refine (Below.heap_setCell _ _ _ gy (Ne.symm NG.out.1)).trans ?_; refine (Below.heap_setCell _ _ _ gy (Ne.symm NG.out.1)).trans ?_; exact BKgy.out⟩
 replace BKga : As_ (w7.heap[ga]? = some (.cells #[.int .i64 a0_0, .int .i64 a0_1, .int .i64 a0_2, .int .i64 a0_3, .int .i64 a0_4, .int .i64 a0_5] 55 (0, 0))) := ⟨by rw [hw]; refine (Below.heap_setCell _ _ _ ga (NG.out.2.2.2.1)).trans ?_; refine (Below.heap_setCell _ _ _ ga (NG.out.2.2.2.1)).trans ?_; refine (Below.heap_setCell _ _ _ ga (NG.out.2.2.2.1)).trans ?_; refine (Below.heap_setCell _ _ _ ga (NG.out.2.2.2.1)).trans ?_; exact BKga.out⟩
 replace BKgb : As_ (w7.heap[gb]? = some (.cells #[.int .i64 a1_0, .int .i64 a1_1, .int .i64 a1_2, .int .i64 a1_3, .int .i64 a1_4, .int .i64 a1_5] 55 (0, 0))) := ⟨by rw [hw]; refine (Below.heap_setCell _ _ _ gb (NG.out.2.2.2.2.1)).trans ?_; refine (Below.heap_setCell _ _ _ gb (NG.out.2.2.2.2.1)).trans ?_; refine (Below.heap_setCell _ _ _ gb (NG.out.2.2.2.2.1)).trans ?_; refine (Below.heap_setCell _ _ _ gb (NG.out.2.2.2.2.1)).trans ?_; exact BKgb.out⟩
 clear hw
 refine hK.out _ _ (sa4 BKga.out (sc4 BKgb.out)) (fun hHeld => ?_)
 clear hK K
 refine on 21 none (fun K hK => ?_)
 obtain ⟨hc0, hf0⟩ := sd1 BKgy.out
 have hc1 : w7.cell? ⟨gy, 1, none⟩ = some (.int .i64 0) := (bC_ BKgy.out 1).trans rfl
 have hf1 := bF_ BKgy.out 1
 have hc2 : w7.cell? ⟨gy, 2, none⟩ = some (.int .i64 0) := (bC_ BKgy.out 2).trans rfl
 have hf2 := bF_ BKgy.out 2
 have hc3 : w7.cell? ⟨gy, 3, none⟩ = some (.int .i64 0) := (bC_ BKgy.out 3).trans rfl
 have hf3 := bF_ BKgy.out 3
 refine skip_ (w1 := ((((w7.setCell ⟨gy, 0, none⟩ (.int .i64 a1_0)).setCell ⟨gy, 1, none⟩ (.int .i64 a1_1)).setCell ⟨gy, 2, none⟩ (.int .i64 a1_2)).setCell ⟨gy, 3, none⟩ (.int .i64 a1_3))) (by rfl) rfl ?_ ?_
 ·first | (go_simp; done) | (go_simp; rfl)
 obtain ⟨w8, hw⟩ : ∃ x, x = ((((w7.setCell ⟨gy, 0, none⟩ (.int .i64 a1_0)).setCell ⟨gy, 1, none⟩ (.int .i64 a1_1)).setCell ⟨gy, 2, none⟩ (.int .i64 a1_2)).setCell ⟨gy, 3, none⟩ (.int .i64 a1_3)) := ⟨_, rfl⟩
 rw [← hw]
 clear hc0 hc1 hc2 hc3 hf0 hf1 hf2 hf3
 replace HB : As_ (Below w.heap.size w w8) := ⟨by rw [hw]; exact bS_ (bS_ (bS_ (bS_ (HB.out) (NG.out.2.2.1)) (NG.out.2.2.1)) (NG.out.2.2.1)) (NG.out.2.2.1)⟩
 replace BKgy : As_ (w8.heap[gy]? = some (.cells #[.int .i64 a1_0, .int .i64 a1_1, .int .i64 a1_2, .int .i64 a1_3] 135 (0, 0))) := ⟨by rw [hw]; exact blk_put (cs := #[.int .i64 a1_0, .int .i64 a1_1, .int .i64 a1_2, .int .i64 0]) (blk_put (cs := #[.int .i64 a1_0, .int .i64 a1_1, .int .i64 0, .int .i64 0]) (blk_put (cs := #[.int .i64 a1_0, .int .i64 0, .int .i64 0, .int .i64 0]) (blk_put (cs := #[.int .i64 0, .int .i64 0, .int .i64 0, .int .i64 0]) (BKgy.out) 0 _ rfl) 1 _ rfl) 2 _ rfl) 3 _ rfl⟩
 replace BKgx : As_ (w8.heap[gx]? = some (.cells #[.int .i64 a0_0, .int .i64 a0_1, .int .i64 a0_2, .int .i64 a0_3] 135 (0, 0))) := ⟨by rw [hw]; refine (Below.heap_setCell _ _ _ gx (NG.out.1)).trans ?_; refine (Below.heap_setCell _ _ _ gx (NG.out.1)).trans ?_; refine (Below.heap_setCell _ _ _ gx (NG.out.1)).trans ?_; refine (Below.heap_setCell _ _ _ gx (NG.out.1)).trans ?_; exact BKgx.out⟩
 replace BKga : As_ (w8.heap[ga]? = some (.cells #[.int .i64 a0_0, .int .i64 a0_1, .int .i64 a0_2, .int .i64 a0_3, .int .i64 a0_4, .int .i64 a0_5] 55 (0, 0))) := ⟨by rw [hw]; refine (Below.heap_setCell _ _ _ ga (NG.out.2.2.2.2.2.1)).trans ?_; refine (Below.heap_setCell _ _ _ ga (NG.out.2.2.2.2.2.1)).trans ?_; refine (Below.heap_setCell _ _ _ ga (NG.out.2.2.2.2.2.1)).trans ?_; refine (Below.heap_setCell _ _ _ ga (NG.out.2.2.2.2.2.1)).trans ?_; exact BKga.out⟩
 replace BKgb : As_ (w8.heap[gb]? = some (.cells #[.int .i64 a1_0, .int .i64 a1_1, .int .i64 a1_2, .int .i64 a1_3, .int .i64 a1_4, .int .i64 a1_5] 55 (0, 0))) := ⟨by rw [hw]; refine (Below.heap_setCell _ _ _ gb (NG.out.2.2.2.2.2.2)).trans ?_; refine (Below.heap_setCell _ _ _ gb (NG.out.2.2.2.2.2.2)).trans ?_; refine (Below.heap_setCell _ _ _ gb (NG.out.2.2.2.2.2.2)).trans ?_; refine (Below.heap_setCell _ _ _ gb (NG.out.2.2.2.2.2.2)).trans ?_; exact BKgb.out⟩
 clear hw
 refine hK.out _ _ (sa4 BKga.out (sc4 BKgb.out)) (fun hHeld => ?_)
 clear hK K
 refine dn ?_
 clear BKga BKgb hHeld
 go_wp2
 go_loopg [26] 4 (fun gg v26 w' => ∃ i : Nat, i + gg = 4 ∧ v26 = .int .i64 (i : Int) ∧ As_ (cmpGo ([(a0_0, a1_0), (a0_1, a1_1), (a0_2, a1_2), (a0_3, a1_3)].drop i) = cmpGo [(a0_0, a1_0), (a0_1, a1_1), (a0_2, a1_2), (a0_3, a1_3)]) ∧ As_ (w'.heap[gx]? = some (.cells #[.int .i64 a0_0, .int .i64 a0_1, .int .i64 a0_2, .int .i64 a0_3] 135 (0, 0))) ∧ As_ (w'.heap[gy]? = some (.cells #[.int .i64 a1_0, .int .i64 a1_1, .int .i64 a1_2, .int .i64 a1_3] 135 (0, 0))) ∧ As_ (Below w.heap.size w w'))
 case atStart => exact ⟨0, rfl, rfl, ⟨rfl⟩, BKgx, BKgy, HB⟩
 case round =>
  clear BKgx BKgy HB
  obtain ⟨i, hi, rfl, HC, BX, BY, HB⟩ := hrel
  obtain rfl | rfl | rfl | rfl | rfl : i = 0 ∨ i = 1 ∨ i = 2 ∨ i = 3 ∨ i = 4 := by omega
  ·obtain rfl : gk = 4 := by omega
   have hcx : wr.cell? ⟨gx, 0, none⟩ = some (.int .i64 a0_0) := (bC_ BX.out 0).trans rfl
   have hcy : wr.cell? ⟨gy, 0, none⟩ = some (.int .i64 a1_0) := (bC_ BY.out 0).trans rfl
   by_cases c0 : a0_0 < a1_0
   ·have hr : cmpGo [(a0_0, a1_0), (a0_1, a1_1), (a0_2, a1_2), (a0_3, a1_3)] = -1 := by rw [← HC.out]; simp [cmpGo, c0]
    have c0' : decide (a0_0 < a1_0) = true := decide_eq_true c0
    have HR := As_.mk hr
    clear c0 hr HC
    go_wp2
    go_quiet (fail)
    go_wp2
    go_ret
    exact ⟨by rw [HR.out]; rfl, sqh⟩
   ·have c0' : decide (a0_0 < a1_0) = false := decide_eq_false c0
    by_cases c1 : a0_0 > a1_0
    ·have hr : cmpGo [(a0_0, a1_0), (a0_1, a1_1), (a0_2, a1_2), (a0_3, a1_3)] = 1 := by rw [← HC.out]; simp [cmpGo, c0, c1]
     have c1' : decide (a0_0 > a1_0) = true := decide_eq_true c1
     have HR := As_.mk hr
     clear c0 c1 hr HC
     go_wp2
     go_quiet (fail)
     go_wp2
     go_quiet (fail)
     go_wp2
     go_ret
     exact ⟨by rw [HR.out]; rfl, sqh⟩
    ·have hr : As_ (cmpGo ([(a0_0, a1_0), (a0_1, a1_1), (a0_2, a1_2), (a0_3, a1_3)].drop 1) = cmpGo [(a0_0, a1_0), (a0_1, a1_1), (a0_2, a1_2), (a0_3, a1_3)]) := ⟨by rw [← HC.out]; simp [cmpGo, c0, c1]⟩
     have c1' : decide (a0_0 > a1_0) = false := decide_eq_false c1
     clear c0 c1 HC
     go_wp2
     go_quiet (fail)
     go_wp2
     go_quiet (fail)
     go_wp2
     go_roundg 3
     case measure => omega
     case rel => exact ⟨1, rfl, rfl, hr, ⟨sqb BX.out⟩, ⟨sqb BY.out⟩, ⟨sqh⟩⟩
  ·obtain rfl : gk = 3 := by omega
   have hcx : wr.cell? ⟨gx, 1, none⟩ = some (.int .i64 a0_1) := (bC_ BX.out 1).trans rfl
   have hcy : wr.cell? ⟨gy, 1, none⟩ = some (.int .i64 a1_1) := (bC_ BY.out 1).trans rfl
   by_cases c0 : a0_1 < a1_1
   ·have hr : cmpGo [(a0_0, a1_0), (a0_1, a1_1), (a0_2, a1_2), (a0_3, a1_3)] = -1 := by rw [← HC.out]; simp [cmpGo, c0]
    have c0' : decide (a0_1 < a1_1) = true := decide_eq_true c0
    have HR := As_.mk hr
    clear c0 hr HC
    go_wp2
    go_quiet (fail)
    go_wp2
    go_ret
    exact ⟨by rw [HR.out]; rfl, sqh⟩
   ·have c0' : decide (a0_1 < a1_1) = false := decide_eq_false c0
    by_cases c1 : a0_1 > a1_1
    ·have hr : cmpGo [(a0_0, a1_0), (a0_1, a1_1), (a0_2, a1_2), (a0_3, a1_3)] = 1 := by rw [← HC.out]; simp [cmpGo, c0, c1]
     have c1' : decide (a0_1 > a1_1) = true := decide_eq_true c1
     have HR := As_.mk hr
     clear c0 c1 hr HC
     go_wp2
     go_quiet (fail)
     go_wp2
     go_quiet (fail)
     go_wp2
     go_ret
     exact ⟨by rw [HR.out]; rfl, sqh⟩
    ·have hr : As_ (cmpGo ([(a0_0, a1_0), (a0_1, a1_1), (a0_2, a1_2), (a0_3, a1_3)].drop 2) = cmpGo [(a0_0, a1_0), (a0_1, a1_1), (a0_2, a1_2), (a0_3, a1_3)]) := ⟨by rw [← HC.out]; simp [cmpGo, c0, c1]⟩
     have c1' : decide (a0_1 > a1_1) = false := decide_eq_false c1
     clear c0 c1 HC
     go_wp2
     go_quiet (fail)
     go_wp2
     go_quiet (fail)
     go_wp2
     go_roundg 2
     case measure => omega
     case rel => exact ⟨2, rfl, rfl, hr, ⟨sqb BX.out⟩, ⟨sqb BY.out⟩, ⟨sqh⟩⟩
  ·obtain rfl : gk = 2 := by omega
   have hcx : wr.cell? ⟨gx, 2, none⟩ = some (.int .i64 a0_2) := (bC_ BX.out 2).trans rfl
   have hcy : wr.cell? ⟨gy, 2, none⟩ = some (.int .i64 a1_2) := (bC_ BY.out 2).trans rfl
   by_cases c0 : a0_2 < a1_2
   ·have hr : cmpGo [(a0_0, a1_0), (a0_1, a1_1), (a0_2, a1_2), (a0_3, a1_3)] = -1 := by rw [← HC.out]; simp [cmpGo, c0]
    have c0' : decide (a0_2 < a1_2) = true := decide_eq_true c0
    have HR := As_.mk hr
    clear c0 hr HC
    go_wp2
    go_quiet (fail)
    go_wp2
    go_ret
    exact ⟨by rw [HR.out]; rfl, sqh⟩
   ·have c0' : decide (a0_2 < a1_2) = false := decide_eq_false c0
    by_cases c1 : a0_2 > a1_2
    ·have hr : cmpGo [(a0_0, a1_0), (a0_1, a1_1), (a0_2, a1_2), (a0_3, a1_3)] = 1 := by rw [← HC.out]; simp [cmpGo, c0, c1]
     have c1' : decide (a0_2 > a1_2) = true := decide_eq_true c1
     have HR := As_.mk hr
     clear c0 c1 hr HC
     go_wp2
     go_quiet (fail)
     go_wp2
     go_quiet (fail)
     go_wp2
     go_ret
     exact ⟨by rw [HR.out]; rfl, sqh⟩
    ·have hr : As_ (cmpGo ([(a0_0, a1_0), (a0_1, a1_1), (a0_2, a1_2), (a0_3, a1_3)].drop 3) = cmpGo [(a0_0, a1_0), (a0_1, a1_1), (a0_2, a1_2), (a0_3, a1_3)]) := ⟨by rw [← HC.out]; simp [cmpGo, c0, c1]⟩
     have c1' : decide (a0_2 > a1_2) = false := decide_eq_false c1
     clear c0 c1 HC
     go_wp2
     go_quiet (fail)
     go_wp2
     go_quiet (fail)
     go_wp2
     go_roundg 1
     case measure => omega
     case rel => exact ⟨3, rfl, rfl, hr, ⟨sqb BX.out⟩, ⟨sqb BY.out⟩, ⟨sqh⟩⟩
  ·obtain rfl : gk = 1 := by omega
   have hcx : wr.cell? ⟨gx, 3, none⟩ = some (.int .i64 a0_3) := (bC_ BX.out 3).trans rfl
   have hcy : wr.cell? ⟨gy, 3, none⟩ = some (.int .i64 a1_3) := (bC_ BY.out 3).trans rfl
   by_cases c0 : a0_3 < a1_3
   ·have hr : cmpGo [(a0_0, a1_0), (a0_1, a1_1), (a0_2, a1_2), (a0_3, a1_3)] = -1 := by rw [← HC.out]; simp [cmpGo, c0]
    have c0' : decide (a0_3 < a1_3) = true := decide_eq_true c0
    have HR := As_.mk hr
    clear c0 hr HC
    go_wp2
    go_quiet (fail)
    go_wp2
    go_ret
    exact ⟨by rw [HR.out]; rfl, sqh⟩
   ·have c0' : decide (a0_3 < a1_3) = false := decide_eq_false c0
    by_cases c1 : a0_3 > a1_3
    ·have hr : cmpGo [(a0_0, a1_0), (a0_1, a1_1), (a0_2, a1_2), (a0_3, a1_3)] = 1 := by rw [← HC.out]; simp [cmpGo, c0, c1]
     have c1' : decide (a0_3 > a1_3) = true := decide_eq_true c1
     have HR := As_.mk hr
     clear c0 c1 hr HC
     go_wp2
     go_quiet (fail)
     go_wp2
     go_quiet (fail)
     go_wp2
     go_ret
     exact ⟨by rw [HR.out]; rfl, sqh⟩
    ·have hr : As_ (cmpGo ([(a0_0, a1_0), (a0_1, a1_1), (a0_2, a1_2), (a0_3, a1_3)].drop 4) = cmpGo [(a0_0, a1_0), (a0_1, a1_1), (a0_2, a1_2), (a0_3, a1_3)]) := ⟨by rw [← HC.out]; simp [cmpGo, c0, c1]⟩
     have c1' : decide (a0_3 > a1_3) = false := decide_eq_false c1
     clear c0 c1 HC
     go_wp2
     go_quiet (fail)
     go_wp2
     go_quiet (fail)
     go_wp2
     go_roundg 0
     case measure => omega
     case rel => exact ⟨4, rfl, rfl, hr, ⟨sqb BX.out⟩, ⟨sqb BY.out⟩, ⟨sqh⟩⟩
  ·have hr : cmpGo [(a0_0, a1_0), (a0_1, a1_1), (a0_2, a1_2), (a0_3, a1_3)] = 0 := by rw [← HC.out]; rfl
   have HR := As_.mk hr
   clear hr HC
   go_wp2
   go_ret
   exact ⟨by rw [HR.out]; rfl, sqh⟩

/-! ### impl_FactBefore: function 106 -/
def impl_FactBefore.f (a0_0 : Int) (a0_1 : Int) (a0_2 : Int) (a0_3 : Int) (a0_4 : Int) (a0_5 : Int) (a1_0 : Int) (a1_1 : Int) (a1_2 : Int) (a1_3 : Int) (a1_4 : Int) (a1_5 : Int) : Option (Bool) := (impl_compareClaims.f a0_0 a0_1 a0_2 a0_3 a0_4 a0_5 a1_0 a1_1 a1_2 a1_3 a1_4 a1_5).bind fun t188 => (some (decide (t188 < 0)))
set_option maxHeartbeats 8000000 in
set_option maxRecDepth 100000 in
theorem impl_FactBefore.calls (a0_0 : Int) (a0_1 : Int) (a0_2 : Int) (a0_3 : Int) (a0_4 : Int) (a0_5 : Int) (a1_0 : Int) (a1_1 : Int) (a1_2 : Int) (a1_3 : Int) (a1_4 : Int) (a1_5 : Int) (r : Bool) (w : World) (h : impl_FactBefore.f a0_0 a0_1 a0_2 a0_3 a0_4 a0_5 a1_0 a1_1 a1_2 a1_3 a1_4 a1_5 = some r) :
  Calls Try.prog 106 #[.agg #[.int .i64 a0_0, .int .i64 a0_1, .int .i64 a0_2, .int .i64 a0_3, .int .i64 a0_4, .int .i64 a0_5], .agg #[.int .i64 a1_0, .int .i64 a1_1, .int .i64 a1_2, .int .i64 a1_3, .int .i64 a1_4, .int .i64 a1_5]] w fun e w' => e = .returned (.bool r) ∧ Below w.heap.size w w' := by
 have hu55 := Try.underlying55
 have HB := As_.mk (Below.refl w.heap.size w)
 have H : ((impl_compareClaims.f a0_0 a0_1 a0_2 a0_3 a0_4 a0_5 a1_0 a1_1 a1_2 a1_3 a1_4 a1_5).bind fun t188 => (some (decide (t188 < 0)))) = some r := h
 clear h
 obtain ⟨t188, A3, H⟩ := bA H
 obtain rfl := Option.some.inj H
 go_enter Try.func106, Try.ntmps106
 go_wp2_with (first | ((with_reducible refine gate_dst (N := 2) rfl ?_); refine bx (N := 2) (cs := #[.int .i64 a0_0, .int .i64 a0_1, .int .i64 a0_2, .int .i64 a0_3, .int .i64 a0_4, .int .i64 a0_5]) (t := 55) ?_; intro gb186 hg w4 hbox hb; have BK186 := As_.mk (hbox); have GW186 := As_.mk ((by rw [hg]; exact (below_size sqh) : w.heap.size ≤ gb186)); have GE186 := As_.mk ((by rw [hg]; exact (below_size sqh) : w.heap.size ≤ gb186)); replace HB := As_.mk (below_step sqh hb); clear hb hbox hg) | ((with_reducible refine gate_dst (N := 3) rfl ?_); refine bx (N := 3) (cs := #[.int .i64 a1_0, .int .i64 a1_1, .int .i64 a1_2, .int .i64 a1_3, .int .i64 a1_4, .int .i64 a1_5]) (t := 55) ?_; intro gb187 hg w5 hbox hb; have BK187 := As_.mk (hbox); have GW187 := As_.mk ((by rw [hg]; exact (below_size sqh) : w.heap.size ≤ gb187)); have GE187 := As_.mk ((by rw [hg]; exact (below_size sqh) : w.heap.size ≤ gb187)); replace HB := As_.mk (below_step sqh hb); have NB186_187 := As_.mk ((by rw [hg]; exact Nat.ne_of_lt (blk_lt (bo BK186)) : gb186 ≠ gb187)); have NB187_186 := As_.mk ((by rw [hg]; exact Nat.ne_of_gt (blk_lt (bo BK186)) : gb187 ≠ gb186)); replace BK186 := As_.mk (blk_below (bo BK186) hb); clear hb hbox hg; have hnb6 := NB186_187.out; have hnc6 := NB187_186.out; obtain ⟨hcz7_0, hcz7_1, hcz7_2, hcz7_3, hcz7_4, hcz7_5, hfz7_0, hfz7_1, hfz7_2, hfz7_3, hfz7_4, hfz7_5⟩ := sd6 BK186.out; obtain ⟨hcz8_0, hcz8_1, hcz8_2, hcz8_3, hcz8_4, hcz8_5, hfz8_0, hfz8_1, hfz8_2, hfz8_3, hfz8_4, hfz8_5⟩ := sd6 BK187.out) | ((with_reducible refine gate_callee (f := 126) rfl ?_); refine goesL_ (some 7) rfl rfl Try.func126 sqk rfl #[.agg #[.int .i64 a0_0, .int .i64 a0_1, .int .i64 a0_2, .int .i64 a0_3, .int .i64 a0_4, .int .i64 a0_5], .agg #[.int .i64 a1_0, .int .i64 a1_1, .int .i64 a1_2, .int .i64 a1_3, .int .i64 a1_4, .int .i64 a1_5]] rfl sqm ?_; (with_reducible refine (impl_compareClaims.calls a0_0 a0_1 a0_2 a0_3 a0_4 a0_5 a1_0 a1_1 a1_2 a1_3 a1_4 a1_5 t188 _ A3.out).mono ?_); rintro e w9 ⟨rfl, hb⟩; refine ⟨_, rfl, ?_⟩; replace BK186 := As_.mk (blk_below (bo BK186) hb); replace BK187 := As_.mk (blk_below (bo BK187) hb); replace HB := As_.mk (below_step sqh hb); (try clear hb)))
 go_ret
 exact ⟨sqe, sqh⟩

end Go.Proofs.Ytabpgiebhgkfhaa.XFnIssuers
