/- Written by this session's own program (wip/xprint, which runs over the kit's print): what the functions that the law reaches come to, each proved; and the law's row. Conditions: none. -/
import Derived.Test.YtabpgiebhgkfhaaUFnIssuersSq
import Derived.Test.YtabpgiebhgkfhaaUFnIssuersx0
import Derived.Test.YtabpgiebhgkfhaaUFnIssuersx12
import Derived.Test.YtabpgiebhgkfhaaUFnIssuersx14
import Derived.Test.YtabpgiebhgkfhaaUFnIssuersx15
namespace Go.Proofs.Ytabpgiebhgkfhaa.XFnIssuers
open Go.RowKit Go.Proofs.YtabpgiebhgkfhaaW.PrintWords Go.Proofs.YtabpgiebhgkfhaaW.PrintLast Go.Proofs.YtabpgiebhgkfhaaW.PrintMore Go.Proofs.YtabpgiebhgkfhaaSq
attribute [local go_sem] max2_int min2_int max_two min_two max_three min_three max_four min_four   -- for this text's walks alone
set_option linter.unusedVariables false
set_option linter.unusedSimpArgs false

/-! ### spec_l8Stated: function 102 -/
def spec_l8Stated.f (k : Nat) (s0_0 : List Int) (s0_1 : Int) (s0_2 : Int) : Option (Int × Int × Int × Int × Int × Int × Int × Int × Int) := (spec_l6Fact.f s0_0 s0_1 s0_2).bind fun bt501 => ((spec_l8Issuers.f).bind fun t510 => ((spec_l1Below.f s0_0 bt501.2.2.2.2.2.2.1 bt501.2.2.2.2.2.2.2 3).bind fun bt513 => (if 0 ≤ bt513.1 then (if bt513.1 < (t510.length : Int) then ((spec_StateFact.f k ((rd_T48 t510 bt513.1).f0) ((rd_T48 t510 bt513.1).f1) ((rd_T48 t510 bt513.1).f2) bt501.1 bt501.2.1 bt501.2.2.1 bt501.2.2.2.1 bt501.2.2.2.2.1 bt501.2.2.2.2.2.1).bind fun bt517 => ((spec_l1Below.f s0_0 bt513.2.1 bt513.2.2 8).bind fun bt526 => (if bt526.1 = 0 then (some (bt517.1, bt517.2.1, bt517.2.2.1, bt517.2.2.2.1, bt517.2.2.2.2.1, bt517.2.2.2.2.2.1, wrap64 (bt517.2.2.2.2.2.2.1 + 1), bt526.2.1, bt526.2.2)) else (if bt526.1 = 1 then (some (bt517.1, bt517.2.1, bt517.2.2.1, bt517.2.2.2.1, bt517.2.2.2.2.1, wrap64 (bt517.2.2.2.2.2.1 + 1), bt517.2.2.2.2.2.2.1, bt526.2.1, bt526.2.2)) else (if bt526.1 = 2 then ((spec_l1Below.f s0_0 bt526.2.1 bt526.2.2 4).bind fun bt529 => (some (bt517.1, bt517.2.1, bt517.2.2.1, bt529.1, bt517.2.2.2.2.1, bt517.2.2.2.2.2.1, bt517.2.2.2.2.2.2.1, bt529.2.1, bt529.2.2))) else (some (bt517.1, bt517.2.1, bt517.2.2.1, bt517.2.2.2.1, bt517.2.2.2.2.1, bt517.2.2.2.2.2.1, bt517.2.2.2.2.2.2.1, bt526.2.1, bt526.2.2))))))) else (none)) else (none))))
def l8K (w0 w W : World) (g : Nat) (s : List Int) (a b : Int) : Prop := IsS125 w0 W g s a b ∧ Below w0.heap.size w0 W ∧ KeepBut w W g none ∧ w0.heap.size ≤ w.heap.size
theorem l8K.below {w0 w W W' : World} {g : Nat} {s : List Int} {a b : Int} (h : l8K w0 w W g s a b) (hb : Below W.heap.size W W') : l8K w0 w W' g s a b :=
 ⟨h.1.below hb, below_step h.2.1 hb, KeepBut.trans h.2.2.1 (KeepBut.of_below hb g none) (.inl rfl), h.2.2.2⟩
theorem l8K.keep {w0 w W W' : World} {g : Nat} {s : List Int} {a b a' b' : Int} (h : l8K w0 w W g s a b) (hi : IsS125 w0 W' g s a' b') (hb : Below w0.heap.size w0 W') (hk : KeepBut W W' g none) : l8K w0 w W' g s a' b' :=
 ⟨hi, hb, KeepBut.trans h.2.2.1 hk (.inl rfl), h.2.2.2⟩
theorem l8fin {A : Prop} {w0 w W : World} {g : Nat} {s : List Int} {a b : Int} (e : A) (h : l8K w0 w W g s a b) : A ∧ IsS125 w0 W g s a b ∧ Below w0.heap.size w0 W ∧ KeepBut w W g none := ⟨e, h.1, h.2.1, h.2.2.1⟩
/-- A block x of the call's own, beside the state. -/
def l8B (w : World) (g x : Nat) : Prop := w.heap.size ≤ x ∧ g ≠ x
theorem l8K.set {w0 w W : World} {g x j : Nat} {s : List Int} {a b : Int} {u : Value} (h : l8K w0 w W g s a b) (hx : l8B w g x) : l8K w0 w (W.setCell ⟨x, j, none⟩ u) g s a b :=
 ⟨IsS125.far h.1 hx.2 u, bS_ h.2.1 (Nat.le_trans h.2.2.2 hx.1), keep_far h.2.2.1 hx.1 u, h.2.2.2⟩
theorem l8K.new {w0 w W : World} {g x : Nat} {s : List Int} {a b : Int} (h : l8K w0 w W g s a b) (hx : x = W.heap.size) : l8B w g x := ⟨by rw [hx]; exact h.2.2.1.1, by rw [hx]; exact Nat.ne_of_lt h.1.lt⟩
theorem l8keep {W W' : World} {g x : Nat} {w : World} {o : Obj} (hk : KeepBut W W' g none) (hb : W.heap[x]? = some o) (hx : l8B w g x) : W'.heap[x]? = some o := KeepBut.blk hk hb hx.2.symm (by simp)
theorem l8put6 {W : World} {x : Nat} {a0 a1 a2 a3 a4 a5 b0 b1 b2 b3 b4 b5 : Value} {t : TypeId} (h : W.heap[x]? = some (.cells #[a0, a1, a2, a3, a4, a5] t (0, 0))) : ((((((W.setCell ⟨x, 0, none⟩ b0).setCell ⟨x, 1, none⟩ b1).setCell ⟨x, 2, none⟩ b2).setCell ⟨x, 3, none⟩ b3).setCell ⟨x, 4, none⟩ b4).setCell ⟨x, 5, none⟩ b5).heap[x]? = some (.cells #[b0, b1, b2, b3, b4, b5] t (0, 0)) :=
 blk_put (cs' := #[b0, b1, b2, b3, b4, b5]) (blk_put (cs' := #[b0, b1, b2, b3, b4, a5]) (blk_put (cs' := #[b0, b1, b2, b3, a4, a5]) (blk_put (cs' := #[b0, b1, b2, a3, a4, a5]) (blk_put (cs' := #[b0, b1, a2, a3, a4, a5]) (blk_put (cs' := #[b0, a1, a2, a3, a4, a5]) (h) 0 b0 rfl) 1 b1 rfl) 2 b2 rfl) 3 b3 rfl) 4 b4 rfl) 5 b5 rfl
theorem l8far6 {W : World} {x y : Nat} {b0 b1 b2 b3 b4 b5 : Value} {t : TypeId} {cs : Array Value} (h : W.heap[y]? = some (.cells cs t (0, 0))) (hn : y ≠ x) : ((((((W.setCell ⟨x, 0, none⟩ b0).setCell ⟨x, 1, none⟩ b1).setCell ⟨x, 2, none⟩ b2).setCell ⟨x, 3, none⟩ b3).setCell ⟨x, 4, none⟩ b4).setCell ⟨x, 5, none⟩ b5).heap[y]? = some (.cells cs t (0, 0)) :=
 blk_far (blk_far (blk_far (blk_far (blk_far (blk_far h hn b0) hn b1) hn b2) hn b3) hn b4) hn b5
theorem l8put7 {W : World} {x : Nat} {a0 a1 a2 a3 a4 a5 a6 b0 b1 b2 b3 b4 b5 b6 : Value} {t : TypeId} (h : W.heap[x]? = some (.cells #[a0, a1, a2, a3, a4, a5, a6] t (0, 0))) : (((((((W.setCell ⟨x, 0, none⟩ b0).setCell ⟨x, 1, none⟩ b1).setCell ⟨x, 2, none⟩ b2).setCell ⟨x, 3, none⟩ b3).setCell ⟨x, 4, none⟩ b4).setCell ⟨x, 5, none⟩ b5).setCell ⟨x, 6, none⟩ b6).heap[x]? = some (.cells #[b0, b1, b2, b3, b4, b5, b6] t (0, 0)) :=
 blk_put (cs' := #[b0, b1, b2, b3, b4, b5, b6]) (blk_put (cs' := #[b0, b1, b2, b3, b4, b5, a6]) (blk_put (cs' := #[b0, b1, b2, b3, b4, a5, a6]) (blk_put (cs' := #[b0, b1, b2, b3, a4, a5, a6]) (blk_put (cs' := #[b0, b1, b2, a3, a4, a5, a6]) (blk_put (cs' := #[b0, b1, a2, a3, a4, a5, a6]) (blk_put (cs' := #[b0, a1, a2, a3, a4, a5, a6]) (h) 0 b0 rfl) 1 b1 rfl) 2 b2 rfl) 3 b3 rfl) 4 b4 rfl) 5 b5 rfl) 6 b6 rfl
theorem l8far7 {W : World} {x y : Nat} {b0 b1 b2 b3 b4 b5 b6 : Value} {t : TypeId} {cs : Array Value} (h : W.heap[y]? = some (.cells cs t (0, 0))) (hn : y ≠ x) : (((((((W.setCell ⟨x, 0, none⟩ b0).setCell ⟨x, 1, none⟩ b1).setCell ⟨x, 2, none⟩ b2).setCell ⟨x, 3, none⟩ b3).setCell ⟨x, 4, none⟩ b4).setCell ⟨x, 5, none⟩ b5).setCell ⟨x, 6, none⟩ b6).heap[y]? = some (.cells cs t (0, 0)) :=
 blk_far (blk_far (blk_far (blk_far (blk_far (blk_far (blk_far h hn b0) hn b1) hn b2) hn b3) hn b4) hn b5) hn b6
theorem l8c6 {W : World} {x : Nat} {a0 a1 a2 a3 a4 a5 : Value} {t : TypeId} (h : W.heap[x]? = some (.cells #[a0, a1, a2, a3, a4, a5] t (0, 0))) : W.cell? ⟨x, 0, none⟩ = some a0 ∧ W.cell? ⟨x, 1, none⟩ = some a1 ∧ W.cell? ⟨x, 2, none⟩ = some a2 ∧ W.cell? ⟨x, 3, none⟩ = some a3 ∧ W.cell? ⟨x, 4, none⟩ = some a4 ∧ W.cell? ⟨x, 5, none⟩ = some a5 :=
 ⟨(bC_ h 0).trans rfl, (bC_ h 1).trans rfl, (bC_ h 2).trans rfl, (bC_ h 3).trans rfl, (bC_ h 4).trans rfl, (bC_ h 5).trans rfl⟩
theorem l8f6 {W : World} {x : Nat} {cs : Array Value} {t : TypeId} (h : W.heap[x]? = some (.cells cs t (0, 0))) : W.frozen? ⟨x, 0, none⟩ = false ∧ W.frozen? ⟨x, 1, none⟩ = false ∧ W.frozen? ⟨x, 2, none⟩ = false ∧ W.frozen? ⟨x, 3, none⟩ = false ∧ W.frozen? ⟨x, 4, none⟩ = false ∧ W.frozen? ⟨x, 5, none⟩ = false :=
 ⟨bF_ h 0, bF_ h 1, bF_ h 2, bF_ h 3, bF_ h 4, bF_ h 5⟩
theorem l8c7 {W : World} {x : Nat} {a0 a1 a2 a3 a4 a5 a6 : Value} {t : TypeId} (h : W.heap[x]? = some (.cells #[a0, a1, a2, a3, a4, a5, a6] t (0, 0))) : W.cell? ⟨x, 0, none⟩ = some a0 ∧ W.cell? ⟨x, 1, none⟩ = some a1 ∧ W.cell? ⟨x, 2, none⟩ = some a2 ∧ W.cell? ⟨x, 3, none⟩ = some a3 ∧ W.cell? ⟨x, 4, none⟩ = some a4 ∧ W.cell? ⟨x, 5, none⟩ = some a5 ∧ W.cell? ⟨x, 6, none⟩ = some a6 :=
 ⟨(bC_ h 0).trans rfl, (bC_ h 1).trans rfl, (bC_ h 2).trans rfl, (bC_ h 3).trans rfl, (bC_ h 4).trans rfl, (bC_ h 5).trans rfl, (bC_ h 6).trans rfl⟩
theorem z102_0 {Q : Prop} (g : Q := by simp only [putAll, Act.put, List.setIfInBounds_toArray, List.set_cons_zero, List.set_cons_succ]) : Q := g
set_option maxHeartbeats 8000000 in
set_option maxRecDepth 100000 in
theorem spec_l8Stated.calls (k : Nat) (g : Nat) (s0_0 : List Int) (s0_1 : Int) (s0_2 : Int) (r1 : Int) (r2 : Int) (r3 : Int) (r4 : Int) (r5 : Int) (r6 : Int) (r7 : Int) (r8 : Int) (r9 : Int) (w0 w : World) (hI : IsS125 w0 w g s0_0 s0_1 s0_2) (hB : Below w0.heap.size w0 w) (h : spec_l8Stated.f k s0_0 s0_1 s0_2 = some (r1, r2, r3, r4, r5, r6, r7, r8, r9)) :
  Calls Try.prog 102 #[.pointer (some ⟨g, 0, none⟩)] w fun e w' => e = .returned (.agg #[.int .i64 r1, .int .i64 r2, .int .i64 r3, .int .i64 r4, .int .i64 r5, .int .i64 r6, .int .i64 r7]) ∧ IsS125 w0 w' g s0_0 r8 r9 ∧ Below w0.heap.size w0 w' ∧ KeepBut w w' g none := by
 have hu76 := Try.underlying76
 have hu55 := Try.underlying55
 have hu48 := Try.underlying48
 have HK0 := As_.mk (show l8K w0 w w g s0_0 s0_1 s0_2 from ⟨hI, hB, KeepBut.refl w g none, hB.size⟩)
 clear hI hB
 have H : ((spec_l6Fact.f s0_0 s0_1 s0_2).bind fun bt501 => ((spec_l8Issuers.f).bind fun t510 => ((spec_l1Below.f s0_0 bt501.2.2.2.2.2.2.1 bt501.2.2.2.2.2.2.2 3).bind fun bt513 => (if 0 ≤ bt513.1 then (if bt513.1 < (t510.length : Int) then ((spec_StateFact.f k ((rd_T48 t510 bt513.1).f0) ((rd_T48 t510 bt513.1).f1) ((rd_T48 t510 bt513.1).f2) bt501.1 bt501.2.1 bt501.2.2.1 bt501.2.2.2.1 bt501.2.2.2.2.1 bt501.2.2.2.2.2.1).bind fun bt517 => ((spec_l1Below.f s0_0 bt513.2.1 bt513.2.2 8).bind fun bt526 => (if bt526.1 = 0 then (some (bt517.1, bt517.2.1, bt517.2.2.1, bt517.2.2.2.1, bt517.2.2.2.2.1, bt517.2.2.2.2.2.1, wrap64 (bt517.2.2.2.2.2.2.1 + 1), bt526.2.1, bt526.2.2)) else (if bt526.1 = 1 then (some (bt517.1, bt517.2.1, bt517.2.2.1, bt517.2.2.2.1, bt517.2.2.2.2.1, wrap64 (bt517.2.2.2.2.2.1 + 1), bt517.2.2.2.2.2.2.1, bt526.2.1, bt526.2.2)) else (if bt526.1 = 2 then ((spec_l1Below.f s0_0 bt526.2.1 bt526.2.2 4).bind fun bt529 => (some (bt517.1, bt517.2.1, bt517.2.2.1, bt529.1, bt517.2.2.2.2.1, bt517.2.2.2.2.2.1, bt517.2.2.2.2.2.2.1, bt529.2.1, bt529.2.2))) else (some (bt517.1, bt517.2.1, bt517.2.2.1, bt517.2.2.2.1, bt517.2.2.2.2.1, bt517.2.2.2.2.2.1, bt517.2.2.2.2.2.2.1, bt526.2.1, bt526.2.2))))))) else (none)) else (none))))) = some (r1, r2, r3, r4, r5, r6, r7, r8, r9) := h
 clear h
 obtain ⟨⟨t501, t502, t503, t504, t505, t506, t507, t508⟩, A2, H⟩ := bA H
 dsimp only at H
 obtain ⟨t510, A3, H⟩ := bA H
 obtain ⟨⟨t513, t514, t515⟩, A4, H⟩ := bA H
 dsimp only at H
 by_cases c5 : 0 ≤ t513
 ·rw [if_pos c5] at H
  have c5b0 : decide (0 ≤ t513) = true := decide_eq_true c5
  clear c5
  by_cases c6 : t513 < (t510.length : Int)
  ·rw [if_pos c6] at H
   have c6b0 : decide (t513 < (t510.length : Int)) = true := decide_eq_true c6
   clear c6
   obtain ⟨⟨t517, t518, t519, t520, t521, t522, t523, t524⟩, A7, H⟩ := bA H
   dsimp only at H
   obtain ⟨⟨t526, t527, t528⟩, A8, H⟩ := bA H
   dsimp only at H
   go_enter Try.func102, Try.ntmps102
   go_wp2_with (first | ((with_reducible refine gate_dst (N := 2) rfl ?_); refine bx (N := 2) (cs := #[.int .i64 0, .int .i64 0, .int .i64 0, .int .i64 0, .int .i64 0, .int .i64 0, .int .i64 0]) (t := 76) ?_; intro gr hg w1 hbox hb; have HBR := As_.mk (HK0.out.new hg); have HK1 := As_.mk (HK0.out.below hb); have HR1 := As_.mk hbox; clear hb hbox hg HK0) | ((with_reducible refine gate_callee (f := 121) rfl ?_); refine goesL_ (some 7) rfl rfl Try.func121 sqk rfl #[.pointer (some ⟨g, 0, none⟩)] rfl sqm ?_; (with_reducible refine (spec_l6Fact.calls g s0_0 s0_1 s0_2 t501 t502 t503 t504 t505 t506 t507 t508 w0 _ ?side1 ?side2 A2.out).mono ?_); (case side1 => exact HK1.out.1); (case side2 => exact HK1.out.2.1); rintro e w2 ⟨rfl, hi, hb, hk⟩; refine ⟨_, rfl, ?_⟩; have HR2 := As_.mk (l8keep hk HR1.out HBR.out); have HK2 := As_.mk (HK1.out.keep hi hb hk); clear hi hb hk HK1 HR1) | ((with_reducible refine gate_dst (N := 3) rfl ?_); refine bx (N := 3) (cs := #[.int .i64 0, .int .i64 0, .int .i64 0, .int .i64 0, .int .i64 0, .int .i64 0]) (t := 55) ?_; intro gf hg w3 hbox hb; have HBF := As_.mk (HK2.out.new hg); have HRF := As_.mk ((by rw [hg]; exact Nat.ne_of_lt (blk_lt HR2.out) : gr ≠ gf)); have HK3 := As_.mk (HK2.out.below hb); have HR3 := As_.mk (blk_below HR2.out hb); have HF3 := As_.mk hbox; obtain ⟨hz0, hz1, hz2, hz3, hz4, hz5⟩ := l8c6 HF3.out; obtain ⟨hy0, hy1, hy2, hy3, hy4, hy5⟩ := l8f6 HF3.out; clear hb hbox hg HK2 HR2) | ((with_reducible refine gate_store (t := 55) (p := 3) rfl ?_); refine store_event (t := 55) (p := 3) (v := ?vo3) (w1 := ((((((w3.setCell ⟨gf, 0, none⟩ (.int .i64 t501)).setCell ⟨gf, 1, none⟩ (.int .i64 t502)).setCell ⟨gf, 2, none⟩ (.int .i64 t503)).setCell ⟨gf, 3, none⟩ (.int .i64 t504)).setCell ⟨gf, 4, none⟩ (.int .i64 t505)).setCell ⟨gf, 5, none⟩ (.int .i64 t506))) ?hg ?ho ?hn ?hr ?_; (case ho => rfl); (case hg => rfl); (case hn => rfl); (case hr => first | (go_simp; done) | (go_simp; rfl)); intro w4 hw; clear hz0 hz1 hz2 hz3 hz4 hz5 hy0 hy1 hy2 hy3 hy4 hy5; have HF4 := As_.mk (show w4.heap[gf]? = some (.cells #[.int .i64 t501, .int .i64 t502, .int .i64 t503, .int .i64 t504, .int .i64 t505, .int .i64 t506] 55 (0, 0)) from by rw [hw]; exact l8put6 HF3.out); have HR4 := As_.mk (show w4.heap[gr]? = some (.cells #[.int .i64 0, .int .i64 0, .int .i64 0, .int .i64 0, .int .i64 0, .int .i64 0, .int .i64 0] 76 (0, 0)) from by rw [hw]; exact l8far6 HR3.out HRF.out); have HK4 := As_.mk (show l8K w0 w w4 g s0_0 t507 t508 from by rw [hw]; exact l8K.set (l8K.set (l8K.set (l8K.set (l8K.set (l8K.set HK3.out HBF.out) HBF.out) HBF.out) HBF.out) HBF.out) HBF.out); clear hw HK3 HR3 HF3))
   have hd_ := bD_ (Below.refl w4.heap.size w4)
   have HK := As_.mk (HK4.out.below hd_)
   have HR := As_.mk (blk_below HR4.out hd_)
   have HF := As_.mk (blk_below HF4.out hd_)
   clear hd_ HK4 HR4 HF4
   refine start_ (n := 13) (S := fun w' => w'.cell? ⟨gf, 0, none⟩ = some (.int .i64 t501) ∧ w'.cell? ⟨gf, 1, none⟩ = some (.int .i64 t502) ∧ w'.cell? ⟨gf, 2, none⟩ = some (.int .i64 t503) ∧ w'.cell? ⟨gf, 3, none⟩ = some (.int .i64 t504) ∧ w'.cell? ⟨gf, 4, none⟩ = some (.int .i64 t505) ∧ w'.cell? ⟨gf, 5, none⟩ = some (.int .i64 t506)) (ds := []) #[false, false, false, false, false, false, false, false, false, false, false, false, false] sqk rfl rfl (l8c6 HF.out) (fun hHeld => ?_)
   generalize w4.drew = w5 at HK HR HF hHeld ⊢
   refine pu 1 10 ?_; refine ta 5 14 ?_
   refine join_ (σ := Value × Value × Value × Nat) 2 #[true, true, true, true, true, true, true, true, true, true, true, false, false] (fun s_ => [(9, s_.1), (11, .int .i64 t513), (12, s_.2.1), (13, s_.2.2.1), (15, .tuple #[.agg #[.int .i64 t517, .int .i64 t518, .int .i64 t519, .int .i64 t520, .int .i64 t521, .int .i64 t522, .int .i64 t523], .bool t524]), (8, .tuple #[.agg #[.int .i64 t517, .int .i64 t518, .int .i64 t519, .int .i64 t520, .int .i64 t521, .int .i64 t522, .int .i64 t523], .bool t524]), (16, .agg #[.int .i64 t517, .int .i64 t518, .int .i64 t519, .int .i64 t520, .int .i64 t521, .int .i64 t522, .int .i64 t523]), (17, .bool t524), (4, .pointer (some ⟨s_.2.2.2, 0, none⟩))]) (fun s_ w' => (w'.cell? ⟨gf, 0, none⟩ = some (.int .i64 t501) ∧ w'.cell? ⟨gf, 1, none⟩ = some (.int .i64 t502) ∧ w'.cell? ⟨gf, 2, none⟩ = some (.int .i64 t503) ∧ w'.cell? ⟨gf, 3, none⟩ = some (.int .i64 t504) ∧ w'.cell? ⟨gf, 4, none⟩ = some (.int .i64 t505) ∧ w'.cell? ⟨gf, 5, none⟩ = some (.int .i64 t506)) ∧ l8K w0 w w' g s0_0 t514 t515 ∧ w'.heap[gr]? = some (.cells #[.int .i64 0, .int .i64 0, .int .i64 0, .int .i64 0, .int .i64 0, .int .i64 0, .int .i64 0] 76 (0, 0)) ∧ w'.heap[gf]? = some (.cells #[.int .i64 t501, .int .i64 t502, .int .i64 t503, .int .i64 t504, .int .i64 t505, .int .i64 t506] 55 (0, 0)) ∧ w'.heap[s_.2.2.2]? = some (.cells #[.int .i64 0, .int .i64 0, .int .i64 0, .int .i64 0, .int .i64 0, .int .i64 0, .int .i64 0] 76 (0, 0)) ∧ l8B w g s_.2.2.2 ∧ gr ≠ s_.2.2.2 ∧ gf ≠ s_.2.2.2) ?_ ?_
   rotate_left
   ·intro hCont
    refine two_ (i := 0) (j := 10) (Ni := some 9) (Nj := some 4) #[true, true, false, false, false, true, false, false, false, false, false, false, false] #[false, true, false, false, false, true, false, false, false, false, true, false, false] rfl rfl rfl rfl sqk (by decide) (by decide) (fun K hK => ?_) (fun K hK => ?_)
    ·skip
     refine goes_ Try.func101 sqk rfl #[] (by rfl) rfl rfl sqm ?_
     with_reducible refine (spec_l8Issuers.calls  t510 _ A3.out).mono ?_
     rintro e w1_ ⟨vI, rfl, ho, hb⟩
     refine ⟨_, rfl, ?_⟩
     have HM := As_.mk HK.out.1.lt
     have HO := As_.mk ho
     replace HK := As_.mk (HK.out.below hb)
     replace HR := As_.mk (blk_below HR.out hb)
     replace HF := As_.mk (blk_below HF.out hb)
     clear hb ho
     refine hK.out _ _ (l8c6 HF.out) (fun hHeld => ?_)
     clear hK K; refine no 9 ?_
     refine two_ (i := 2) (j := 10) (Ni := some 11) (Nj := some 4) #[true, true, true, false, false, true, false, false, false, false, false, false, false] #[true, true, false, false, false, true, false, false, false, false, true, false, false] rfl rfl rfl rfl sqk (by decide) (by decide) (fun K hK => ?_) (fun K hK => ?_)
     ·skip
      refine goes_ Try.func105 sqk rfl #[.pointer (some ⟨g, 0, none⟩), .int .i64 3] (by rfl) rfl rfl sqm ?_
      with_reducible refine (spec_l1Below.calls g s0_0 t507 t508 3 t513 t514 t515 w0 _ ?side1 ?side2 A4.out).mono ?_
      (case side1 => exact HK.out.1)
      (case side2 => exact HK.out.2.1)
      rintro e w1_ ⟨rfl, hi, hb, hk⟩
      refine ⟨_, rfl, ?_⟩
      have hO := Kd.N_keep HO.out hk (fun k_ hk_ => by have := HM.out; omega)
      replace HR := As_.mk (l8keep hk HR.out HBR.out)
      replace HF := As_.mk (l8keep hk HF.out HBF.out)
      replace HK := As_.mk (HK.out.keep hi hb hk)
      clear hi hb hk HO HM
      obtain ⟨Ao, co, eo⟩ := Kd.N_slice hO
      subst eo
      have p_ : 0 ≤ (t513 : Int) := of_decide_eq_true sqs
      have q_ : t513 < (t510.length : Int) := of_decide_eq_true sqs
      obtain ⟨ad, A1, c1, e1, hx0, hx1, hx2, hl1, hi1⟩ := at_T48 (Kd.N_reads' hO).2.2 t513 p_ q_
      cases e1
      have HX := As_.mk (And.intro hx0 (And.intro hx1 hx2))
      have HL1 := As_.mk hl1
      have HC1 := As_.mk hi1
      clear hx0 hx1 hx2 hl1 hi1 hO
      have hp_ := eq_true p_
      have hq_ := eq_true q_
      clear p_ q_
      refine hK.out _ _ (l8c6 HF.out) (fun hHeld => ?_)
      clear hK K; refine no 11 ?_; refine pu 3 12 ?_
      refine two_ (i := 4) (j := 10) (Ni := some 13) (Nj := some 4) #[true, true, true, true, true, true, false, false, false, false, false, false, false] #[true, true, true, true, false, true, false, false, false, false, true, false, false] rfl rfl rfl rfl sqk (by decide) (by decide) (fun K hK => ?_) (fun K hK => ?_)
      ·skip
       obtain ⟨hx0, hx1, hx2⟩ := HX.out
       refine value_ (w1 := w1_) (v := .agg #[.int .i64 ((rd_T48 t510 t513).f0), .slice A1 ((rd_T48 t510 t513).f1).length c1, .int .i64 ((rd_T48 t510 t513).f2)]) (by rfl) rfl ?run ?_
       (case run => first | (go_simp; done) | (go_simp; rfl))
       clear hx0 hx1 hx2
       refine hK.out _ _ (l8c6 HF.out) (fun hHeld => ?_)
       clear hK K; refine no 13 ?_
       refine two_ (i := 6) (j := 10) (Ni := some 15) (Nj := some 4) #[true, true, true, true, true, true, true, false, false, false, false, false, false] #[true, true, true, true, true, true, false, false, false, false, true, false, false] rfl rfl rfl rfl sqk (by decide) (by decide) (fun K hK => ?_) (fun K hK => ?_)
       ·skip
        refine goes_ Try.func52 sqk rfl #[.agg #[.int .i64 ((rd_T48 t510 t513).f0), .slice A1 ((rd_T48 t510 t513).f1).length c1, .int .i64 ((rd_T48 t510 t513).f2)], .agg #[.int .i64 t501, .int .i64 t502, .int .i64 t503, .int .i64 t504, .int .i64 t505, .int .i64 t506]] (by rfl) rfl rfl sqm ?_
        with_reducible refine (spec_StateFact.calls k ((rd_T48 t510 t513).f0) _ _ ((rd_T48 t510 t513).f1) ((rd_T48 t510 t513).f2) t501 t502 t503 t504 t505 t506 t517 t518 t519 t520 t521 t522 t523 t524 _ ?side1 ?side2 A7.out).mono ?_
        (case side1 => exact HC1.out)
        (case side2 => exact HL1.out)
        rintro e w1_ ⟨rfl, hb⟩
        refine ⟨_, rfl, ?_⟩
        replace HK := As_.mk (HK.out.below hb)
        replace HR := As_.mk (blk_below HR.out hb)
        replace HF := As_.mk (blk_below HF.out hb)
        clear hb
        refine hK.out _ _ (l8c6 HF.out) (fun hHeld => ?_)
        clear hK K; refine no 15 ?_; refine pu 7 8 ?_; refine pu 8 16 ?_; refine pu 9 17 ?_
        refine on 10 (some 4) (fun K hK => ?_)
        refine box_step ?hg (N := 4) ?hd (cs := #[.int .i64 0, .int .i64 0, .int .i64 0, .int .i64 0, .int .i64 0, .int .i64 0, .int .i64 0]) (t := 76) ?hr ?_
        (case hd => rfl)
        (case hg => rfl)
        (case hr => first | (go_simp; done) | (go_simp; rfl))
        intro gs hg w1_ hbox hb
        have HBG := As_.mk (HK.out.new hg)
        have HRG := As_.mk ((by rw [hg]; exact Nat.ne_of_lt (blk_lt HR.out) : gr ≠ gs))
        have HFG := As_.mk ((by rw [hg]; exact Nat.ne_of_lt (blk_lt HF.out) : gf ≠ gs))
        have HG := As_.mk hbox
        replace HK := As_.mk (HK.out.below hb)
        replace HR := As_.mk (blk_below HR.out hb)
        replace HF := As_.mk (blk_below HF.out hb)
        clear hb hbox hg
        refine hK.out _ _ (l8c6 HF.out) (fun hHeld => ?_)
        clear hK K; refine no 4 ?_
        exact norm_ z102_0 (hCont (.slice (some ad) t510.length co, .pointer (some (ad.add (t513.toNat * 3))), .agg #[.int .i64 ((rd_T48 t510 t513).f0), .slice A1 ((rd_T48 t510 t513).f1).length c1, .int .i64 ((rd_T48 t510 t513).f2)], gs) _ ⟨hHeld, HK.out, HR.out, HF.out, HG.out, HBG.out, HRG.out, HFG.out⟩)
       ·skip
        refine box_step ?hg (N := 4) ?hd (cs := #[.int .i64 0, .int .i64 0, .int .i64 0, .int .i64 0, .int .i64 0, .int .i64 0, .int .i64 0]) (t := 76) ?hr ?_
        (case hd => rfl)
        (case hg => rfl)
        (case hr => first | (go_simp; done) | (go_simp; rfl))
        intro gs hg w1_ hbox hb
        have HBG := As_.mk (HK.out.new hg)
        have HRG := As_.mk ((by rw [hg]; exact Nat.ne_of_lt (blk_lt HR.out) : gr ≠ gs))
        have HFG := As_.mk ((by rw [hg]; exact Nat.ne_of_lt (blk_lt HF.out) : gf ≠ gs))
        replace HC1 := As_.mk (Kd.C_below HC1.out hb)
        have HG := As_.mk hbox
        replace HK := As_.mk (HK.out.below hb)
        replace HR := As_.mk (blk_below HR.out hb)
        replace HF := As_.mk (blk_below HF.out hb)
        clear hb hbox hg
        refine hK.out _ _ (l8c6 HF.out) (fun hHeld => ?_)
        clear hK K; refine no 4 ?_
        refine on 6 (some 15) (fun K hK => ?_)
        refine goes_ Try.func52 sqk rfl #[.agg #[.int .i64 ((rd_T48 t510 t513).f0), .slice A1 ((rd_T48 t510 t513).f1).length c1, .int .i64 ((rd_T48 t510 t513).f2)], .agg #[.int .i64 t501, .int .i64 t502, .int .i64 t503, .int .i64 t504, .int .i64 t505, .int .i64 t506]] (by rfl) rfl rfl sqm ?_
        with_reducible refine (spec_StateFact.calls k ((rd_T48 t510 t513).f0) _ _ ((rd_T48 t510 t513).f1) ((rd_T48 t510 t513).f2) t501 t502 t503 t504 t505 t506 t517 t518 t519 t520 t521 t522 t523 t524 _ ?side1 ?side2 A7.out).mono ?_
        (case side1 => exact HC1.out)
        (case side2 => exact HL1.out)
        rintro e w1_ ⟨rfl, hb⟩
        refine ⟨_, rfl, ?_⟩
        replace HK := As_.mk (HK.out.below hb)
        replace HR := As_.mk (blk_below HR.out hb)
        replace HF := As_.mk (blk_below HF.out hb)
        replace HG := As_.mk (blk_below HG.out hb)
        clear hb
        refine hK.out _ _ (l8c6 HF.out) (fun hHeld => ?_)
        clear hK K; refine no 15 ?_; refine pu 7 8 ?_; refine pu 8 16 ?_; refine pu 9 17 ?_
        exact norm_ z102_0 (hCont (.slice (some ad) t510.length co, .pointer (some (ad.add (t513.toNat * 3))), .agg #[.int .i64 ((rd_T48 t510 t513).f0), .slice A1 ((rd_T48 t510 t513).f1).length c1, .int .i64 ((rd_T48 t510 t513).f2)], gs) _ ⟨hHeld, HK.out, HR.out, HF.out, HG.out, HBG.out, HRG.out, HFG.out⟩)
      ·skip
       refine box_step ?hg (N := 4) ?hd (cs := #[.int .i64 0, .int .i64 0, .int .i64 0, .int .i64 0, .int .i64 0, .int .i64 0, .int .i64 0]) (t := 76) ?hr ?_
       (case hd => rfl)
       (case hg => rfl)
       (case hr => first | (go_simp; done) | (go_simp; rfl))
       intro gs hg w1_ hbox hb
       have HBG := As_.mk (HK.out.new hg)
       have HRG := As_.mk ((by rw [hg]; exact Nat.ne_of_lt (blk_lt HR.out) : gr ≠ gs))
       have HFG := As_.mk ((by rw [hg]; exact Nat.ne_of_lt (blk_lt HF.out) : gf ≠ gs))
       obtain ⟨hx0, hx1, hx2⟩ := HX.out
       replace HX := As_.mk (And.intro ((hb.cell (World.block_lt_of_cell? _ _ hx0)).trans hx0) (And.intro ((hb.cell (World.block_lt_of_cell? _ _ hx1)).trans hx1) ((hb.cell (World.block_lt_of_cell? _ _ hx2)).trans hx2)))
       clear hx0 hx1 hx2
       replace HC1 := As_.mk (Kd.C_below HC1.out hb)
       have HG := As_.mk hbox
       replace HK := As_.mk (HK.out.below hb)
       replace HR := As_.mk (blk_below HR.out hb)
       replace HF := As_.mk (blk_below HF.out hb)
       clear hb hbox hg
       refine hK.out _ _ (l8c6 HF.out) (fun hHeld => ?_)
       clear hK K; refine no 4 ?_
       refine on 4 (some 13) (fun K hK => ?_)
       obtain ⟨hx0, hx1, hx2⟩ := HX.out
       refine value_ (w1 := w1_) (v := .agg #[.int .i64 ((rd_T48 t510 t513).f0), .slice A1 ((rd_T48 t510 t513).f1).length c1, .int .i64 ((rd_T48 t510 t513).f2)]) (by rfl) rfl ?run ?_
       (case run => first | (go_simp; done) | (go_simp; rfl))
       clear hx0 hx1 hx2
       refine hK.out _ _ (l8c6 HF.out) (fun hHeld => ?_)
       clear hK K; refine no 13 ?_
       refine on 6 (some 15) (fun K hK => ?_)
       refine goes_ Try.func52 sqk rfl #[.agg #[.int .i64 ((rd_T48 t510 t513).f0), .slice A1 ((rd_T48 t510 t513).f1).length c1, .int .i64 ((rd_T48 t510 t513).f2)], .agg #[.int .i64 t501, .int .i64 t502, .int .i64 t503, .int .i64 t504, .int .i64 t505, .int .i64 t506]] (by rfl) rfl rfl sqm ?_
       with_reducible refine (spec_StateFact.calls k ((rd_T48 t510 t513).f0) _ _ ((rd_T48 t510 t513).f1) ((rd_T48 t510 t513).f2) t501 t502 t503 t504 t505 t506 t517 t518 t519 t520 t521 t522 t523 t524 _ ?side1 ?side2 A7.out).mono ?_
       (case side1 => exact HC1.out)
       (case side2 => exact HL1.out)
       rintro e w1_ ⟨rfl, hb⟩
       refine ⟨_, rfl, ?_⟩
       replace HK := As_.mk (HK.out.below hb)
       replace HR := As_.mk (blk_below HR.out hb)
       replace HF := As_.mk (blk_below HF.out hb)
       replace HG := As_.mk (blk_below HG.out hb)
       clear hb
       refine hK.out _ _ (l8c6 HF.out) (fun hHeld => ?_)
       clear hK K; refine no 15 ?_; refine pu 7 8 ?_; refine pu 8 16 ?_; refine pu 9 17 ?_
       exact norm_ z102_0 (hCont (.slice (some ad) t510.length co, .pointer (some (ad.add (t513.toNat * 3))), .agg #[.int .i64 ((rd_T48 t510 t513).f0), .slice A1 ((rd_T48 t510 t513).f1).length c1, .int .i64 ((rd_T48 t510 t513).f2)], gs) _ ⟨hHeld, HK.out, HR.out, HF.out, HG.out, HBG.out, HRG.out, HFG.out⟩)
     ·skip
      refine box_step ?hg (N := 4) ?hd (cs := #[.int .i64 0, .int .i64 0, .int .i64 0, .int .i64 0, .int .i64 0, .int .i64 0, .int .i64 0]) (t := 76) ?hr ?_
      (case hd => rfl)
      (case hg => rfl)
      (case hr => first | (go_simp; done) | (go_simp; rfl))
      intro gs hg w1_ hbox hb
      have HBG := As_.mk (HK.out.new hg)
      have HRG := As_.mk ((by rw [hg]; exact Nat.ne_of_lt (blk_lt HR.out) : gr ≠ gs))
      have HFG := As_.mk ((by rw [hg]; exact Nat.ne_of_lt (blk_lt HF.out) : gf ≠ gs))
      replace HM := As_.mk (Nat.lt_of_lt_of_le HM.out (Nat.le_refl _))
      replace HO := As_.mk (Kd.N_below HO.out hb)
      have HG := As_.mk hbox
      replace HK := As_.mk (HK.out.below hb)
      replace HR := As_.mk (blk_below HR.out hb)
      replace HF := As_.mk (blk_below HF.out hb)
      clear hb hbox hg
      refine hK.out _ _ (l8c6 HF.out) (fun hHeld => ?_)
      clear hK K; refine no 4 ?_
      refine on 2 (some 11) (fun K hK => ?_)
      refine goes_ Try.func105 sqk rfl #[.pointer (some ⟨g, 0, none⟩), .int .i64 3] (by rfl) rfl rfl sqm ?_
      with_reducible refine (spec_l1Below.calls g s0_0 t507 t508 3 t513 t514 t515 w0 _ ?side1 ?side2 A4.out).mono ?_
      (case side1 => exact HK.out.1)
      (case side2 => exact HK.out.2.1)
      rintro e w1_ ⟨rfl, hi, hb, hk⟩
      refine ⟨_, rfl, ?_⟩
      have hO := Kd.N_keep HO.out hk (fun k_ hk_ => by have := HM.out; omega)
      replace HR := As_.mk (l8keep hk HR.out HBR.out)
      replace HF := As_.mk (l8keep hk HF.out HBF.out)
      replace HG := As_.mk (l8keep hk HG.out HBG.out)
      replace HK := As_.mk (HK.out.keep hi hb hk)
      clear hi hb hk HO HM
      obtain ⟨Ao, co, eo⟩ := Kd.N_slice hO
      subst eo
      have p_ : 0 ≤ (t513 : Int) := of_decide_eq_true sqs
      have q_ : t513 < (t510.length : Int) := of_decide_eq_true sqs
      obtain ⟨ad, A1, c1, e1, hx0, hx1, hx2, hl1, hi1⟩ := at_T48 (Kd.N_reads' hO).2.2 t513 p_ q_
      cases e1
      have HX := As_.mk (And.intro hx0 (And.intro hx1 hx2))
      have HL1 := As_.mk hl1
      have HC1 := As_.mk hi1
      clear hx0 hx1 hx2 hl1 hi1 hO
      have hp_ := eq_true p_
      have hq_ := eq_true q_
      clear p_ q_
      refine hK.out _ _ (l8c6 HF.out) (fun hHeld => ?_)
      clear hK K; refine no 11 ?_; refine pu 3 12 ?_
      refine on 4 (some 13) (fun K hK => ?_)
      obtain ⟨hx0, hx1, hx2⟩ := HX.out
      refine value_ (w1 := w1_) (v := .agg #[.int .i64 ((rd_T48 t510 t513).f0), .slice A1 ((rd_T48 t510 t513).f1).length c1, .int .i64 ((rd_T48 t510 t513).f2)]) (by rfl) rfl ?run ?_
      (case run => first | (go_simp; done) | (go_simp; rfl))
      clear hx0 hx1 hx2
      refine hK.out _ _ (l8c6 HF.out) (fun hHeld => ?_)
      clear hK K; refine no 13 ?_
      refine on 6 (some 15) (fun K hK => ?_)
      refine goes_ Try.func52 sqk rfl #[.agg #[.int .i64 ((rd_T48 t510 t513).f0), .slice A1 ((rd_T48 t510 t513).f1).length c1, .int .i64 ((rd_T48 t510 t513).f2)], .agg #[.int .i64 t501, .int .i64 t502, .int .i64 t503, .int .i64 t504, .int .i64 t505, .int .i64 t506]] (by rfl) rfl rfl sqm ?_
      with_reducible refine (spec_StateFact.calls k ((rd_T48 t510 t513).f0) _ _ ((rd_T48 t510 t513).f1) ((rd_T48 t510 t513).f2) t501 t502 t503 t504 t505 t506 t517 t518 t519 t520 t521 t522 t523 t524 _ ?side1 ?side2 A7.out).mono ?_
      (case side1 => exact HC1.out)
      (case side2 => exact HL1.out)
      rintro e w1_ ⟨rfl, hb⟩
      refine ⟨_, rfl, ?_⟩
      replace HK := As_.mk (HK.out.below hb)
      replace HR := As_.mk (blk_below HR.out hb)
      replace HF := As_.mk (blk_below HF.out hb)
      replace HG := As_.mk (blk_below HG.out hb)
      clear hb
      refine hK.out _ _ (l8c6 HF.out) (fun hHeld => ?_)
      clear hK K; refine no 15 ?_; refine pu 7 8 ?_; refine pu 8 16 ?_; refine pu 9 17 ?_
      exact norm_ z102_0 (hCont (.slice (some ad) t510.length co, .pointer (some (ad.add (t513.toNat * 3))), .agg #[.int .i64 ((rd_T48 t510 t513).f0), .slice A1 ((rd_T48 t510 t513).f1).length c1, .int .i64 ((rd_T48 t510 t513).f2)], gs) _ ⟨hHeld, HK.out, HR.out, HF.out, HG.out, HBG.out, HRG.out, HFG.out⟩)
    ·skip
     refine box_step ?hg (N := 4) ?hd (cs := #[.int .i64 0, .int .i64 0, .int .i64 0, .int .i64 0, .int .i64 0, .int .i64 0, .int .i64 0]) (t := 76) ?hr ?_
     (case hd => rfl)
     (case hg => rfl)
     (case hr => first | (go_simp; done) | (go_simp; rfl))
     intro gs hg w1_ hbox hb
     have HBG := As_.mk (HK.out.new hg)
     have HRG := As_.mk ((by rw [hg]; exact Nat.ne_of_lt (blk_lt HR.out) : gr ≠ gs))
     have HFG := As_.mk ((by rw [hg]; exact Nat.ne_of_lt (blk_lt HF.out) : gf ≠ gs))
     have HG := As_.mk hbox
     replace HK := As_.mk (HK.out.below hb)
     replace HR := As_.mk (blk_below HR.out hb)
     replace HF := As_.mk (blk_below HF.out hb)
     clear hb hbox hg
     refine hK.out _ _ (l8c6 HF.out) (fun hHeld => ?_)
     clear hK K; refine no 4 ?_
     refine on 0 (some 9) (fun K hK => ?_)
     refine goes_ Try.func101 sqk rfl #[] (by rfl) rfl rfl sqm ?_
     with_reducible refine (spec_l8Issuers.calls  t510 _ A3.out).mono ?_
     rintro e w1_ ⟨vI, rfl, ho, hb⟩
     refine ⟨_, rfl, ?_⟩
     have HM := As_.mk HK.out.1.lt
     have HO := As_.mk ho
     replace HK := As_.mk (HK.out.below hb)
     replace HR := As_.mk (blk_below HR.out hb)
     replace HF := As_.mk (blk_below HF.out hb)
     replace HG := As_.mk (blk_below HG.out hb)
     clear hb ho
     refine hK.out _ _ (l8c6 HF.out) (fun hHeld => ?_)
     clear hK K; refine no 9 ?_
     refine on 2 (some 11) (fun K hK => ?_)
     refine goes_ Try.func105 sqk rfl #[.pointer (some ⟨g, 0, none⟩), .int .i64 3] (by rfl) rfl rfl sqm ?_
     with_reducible refine (spec_l1Below.calls g s0_0 t507 t508 3 t513 t514 t515 w0 _ ?side1 ?side2 A4.out).mono ?_
     (case side1 => exact HK.out.1)
     (case side2 => exact HK.out.2.1)
     rintro e w1_ ⟨rfl, hi, hb, hk⟩
     refine ⟨_, rfl, ?_⟩
     have hO := Kd.N_keep HO.out hk (fun k_ hk_ => by have := HM.out; omega)
     replace HR := As_.mk (l8keep hk HR.out HBR.out)
     replace HF := As_.mk (l8keep hk HF.out HBF.out)
     replace HG := As_.mk (l8keep hk HG.out HBG.out)
     replace HK := As_.mk (HK.out.keep hi hb hk)
     clear hi hb hk HO HM
     obtain ⟨Ao, co, eo⟩ := Kd.N_slice hO
     subst eo
     have p_ : 0 ≤ (t513 : Int) := of_decide_eq_true sqs
     have q_ : t513 < (t510.length : Int) := of_decide_eq_true sqs
     obtain ⟨ad, A1, c1, e1, hx0, hx1, hx2, hl1, hi1⟩ := at_T48 (Kd.N_reads' hO).2.2 t513 p_ q_
     cases e1
     have HX := As_.mk (And.intro hx0 (And.intro hx1 hx2))
     have HL1 := As_.mk hl1
     have HC1 := As_.mk hi1
     clear hx0 hx1 hx2 hl1 hi1 hO
     have hp_ := eq_true p_
     have hq_ := eq_true q_
     clear p_ q_
     refine hK.out _ _ (l8c6 HF.out) (fun hHeld => ?_)
     clear hK K; refine no 11 ?_; refine pu 3 12 ?_
     refine on 4 (some 13) (fun K hK => ?_)
     obtain ⟨hx0, hx1, hx2⟩ := HX.out
     refine value_ (w1 := w1_) (v := .agg #[.int .i64 ((rd_T48 t510 t513).f0), .slice A1 ((rd_T48 t510 t513).f1).length c1, .int .i64 ((rd_T48 t510 t513).f2)]) (by rfl) rfl ?run ?_
     (case run => first | (go_simp; done) | (go_simp; rfl))
     clear hx0 hx1 hx2
     refine hK.out _ _ (l8c6 HF.out) (fun hHeld => ?_)
     clear hK K; refine no 13 ?_
     refine on 6 (some 15) (fun K hK => ?_)
     refine goes_ Try.func52 sqk rfl #[.agg #[.int .i64 ((rd_T48 t510 t513).f0), .slice A1 ((rd_T48 t510 t513).f1).length c1, .int .i64 ((rd_T48 t510 t513).f2)], .agg #[.int .i64 t501, .int .i64 t502, .int .i64 t503, .int .i64 t504, .int .i64 t505, .int .i64 t506]] (by rfl) rfl rfl sqm ?_
     with_reducible refine (spec_StateFact.calls k ((rd_T48 t510 t513).f0) _ _ ((rd_T48 t510 t513).f1) ((rd_T48 t510 t513).f2) t501 t502 t503 t504 t505 t506 t517 t518 t519 t520 t521 t522 t523 t524 _ ?side1 ?side2 A7.out).mono ?_
     (case side1 => exact HC1.out)
     (case side2 => exact HL1.out)
     rintro e w1_ ⟨rfl, hb⟩
     refine ⟨_, rfl, ?_⟩
     replace HK := As_.mk (HK.out.below hb)
     replace HR := As_.mk (blk_below HR.out hb)
     replace HF := As_.mk (blk_below HF.out hb)
     replace HG := As_.mk (blk_below HG.out hb)
     clear hb
     refine hK.out _ _ (l8c6 HF.out) (fun hHeld => ?_)
     clear hK K; refine no 15 ?_; refine pu 7 8 ?_; refine pu 8 16 ?_; refine pu 9 17 ?_
     exact norm_ z102_0 (hCont (.slice (some ad) t510.length co, .pointer (some (ad.add (t513.toNat * 3))), .agg #[.int .i64 ((rd_T48 t510 t513).f0), .slice A1 ((rd_T48 t510 t513).f1).length c1, .int .i64 ((rd_T48 t510 t513).f2)], gs) _ ⟨hHeld, HK.out, HR.out, HF.out, HG.out, HBG.out, HRG.out, HFG.out⟩)
   rintro ⟨vI, vA, vS, gs⟩ w6 ⟨hHeld', hK_, hR_, hF_, hG_, hBG_, hRG_, hFG_⟩
   clear HK HR HF hHeld
   have HK := As_.mk hK_
   have HR := As_.mk hR_
   have HG := As_.mk hG_
   have HBG := As_.mk hBG_
   have HRG := As_.mk hRG_
   have HF := As_.mk hF_
   have HFG := As_.mk hFG_
   have hHeld := hHeld'
   clear hHeld' hK_ hR_ hG_ hBG_ hRG_ hF_ hFG_
   refine norm_ (a' := ?_) ?_ ?_
   rotate_left
   ·simp only [putAll, Act.put, List.setIfInBounds_toArray, List.set_cons_zero, List.set_cons_succ]
    rfl
   refine on 11 none (fun K hK => ?_)
   obtain ⟨hz0, hz1, hz2, hz3, hz4, hz5, hz6⟩ := l8c7 HG.out
   obtain ⟨hy0, hy1, hy2, hy3, hy4, hy5⟩ := l8f6 HG.out
   have hy6 := bF_ HG.out 6
   refine skip_ (w1 := (((((((w6.setCell ⟨gs, 0, none⟩ (.int .i64 t517)).setCell ⟨gs, 1, none⟩ (.int .i64 t518)).setCell ⟨gs, 2, none⟩ (.int .i64 t519)).setCell ⟨gs, 3, none⟩ (.int .i64 t520)).setCell ⟨gs, 4, none⟩ (.int .i64 t521)).setCell ⟨gs, 5, none⟩ (.int .i64 t522)).setCell ⟨gs, 6, none⟩ (.int .i64 t523))) (by rfl) rfl ?run ?_
   (case run => first | (go_simp; done) | (go_simp; rfl))
   clear hz0 hz1 hz2 hz3 hz4 hz5 hz6 hy0 hy1 hy2 hy3 hy4 hy5 hy6
   obtain ⟨w7, hw⟩ : ∃ x, x = (((((((w6.setCell ⟨gs, 0, none⟩ (.int .i64 t517)).setCell ⟨gs, 1, none⟩ (.int .i64 t518)).setCell ⟨gs, 2, none⟩ (.int .i64 t519)).setCell ⟨gs, 3, none⟩ (.int .i64 t520)).setCell ⟨gs, 4, none⟩ (.int .i64 t521)).setCell ⟨gs, 5, none⟩ (.int .i64 t522)).setCell ⟨gs, 6, none⟩ (.int .i64 t523)) := ⟨_, rfl⟩
   rw [← hw]
   have HG7 := As_.mk (show w7.heap[gs]? = some (.cells #[.int .i64 t517, .int .i64 t518, .int .i64 t519, .int .i64 t520, .int .i64 t521, .int .i64 t522, .int .i64 t523] 76 (0, 0)) from by rw [hw]; exact l8put7 HG.out)
   have HR7 := As_.mk (show w7.heap[gr]? = some (.cells #[.int .i64 0, .int .i64 0, .int .i64 0, .int .i64 0, .int .i64 0, .int .i64 0, .int .i64 0] 76 (0, 0)) from by rw [hw]; exact l8far7 HR.out HRG.out)
   have HF7 := As_.mk (show w7.heap[gf]? = some (.cells #[.int .i64 t501, .int .i64 t502, .int .i64 t503, .int .i64 t504, .int .i64 t505, .int .i64 t506] 55 (0, 0)) from by rw [hw]; exact l8far7 HF.out HFG.out)
   have HK7 := As_.mk (show l8K w0 w w7 g s0_0 t514 t515 from by rw [hw]; exact l8K.set (l8K.set (l8K.set (l8K.set (l8K.set (l8K.set (l8K.set HK.out HBG.out) HBG.out) HBG.out) HBG.out) HBG.out) HBG.out) HBG.out)
   clear hw HK HR HG HF
   refine hK.out _ _ (l8c6 HF7.out) (fun hHeld => ?_)
   clear hK K; refine pu 12 5 ?_
   refine dn ?_
   clear hHeld HF7 HFG
   by_cases c9 : t526 = 0
   ·rw [if_pos c9] at H
    have c9b0 : (t526 == 0) = true := beq_iff_eq.mpr c9
    have c9b1 : (t526 != 0) = false := bne_eq_false_iff_eq.mpr c9
    clear c9
    simp only [Option.some.injEq, Prod.mk.injEq] at H
    obtain ⟨rfl, rfl, rfl, rfl, rfl, rfl, rfl, rfl, rfl⟩ := H
    go_wp2_with (first | ((with_reducible refine gate_callee (f := 105) rfl ?_); refine goesL_ (some 19) rfl rfl Try.func105 sqk rfl #[.pointer (some ⟨g, 0, none⟩), .int .i64 8] rfl sqm ?_; (with_reducible refine (spec_l1Below.calls g s0_0 t514 t515 8 t526 t527 t528 w0 _ ?side1 ?side2 A8.out).mono ?_); (case side1 => exact HK7.out.1); (case side2 => exact HK7.out.2.1); rintro e w8 ⟨rfl, hi, hb, hk⟩; refine ⟨_, rfl, ?_⟩; have HG8 := As_.mk (l8keep hk HG7.out HBG.out); have HR8 := As_.mk (l8keep hk HR7.out HBR.out); have HK8 := As_.mk (HK7.out.keep hi hb hk); clear hi hb hk HK7 HR7 HG7; obtain ⟨hz0, hz1, hz2, hz3, hz4, hz5, hz6⟩ := l8c7 HG8.out; obtain ⟨hy0, hy1, hy2, hy3, hy4, hy5⟩ := l8f6 HG8.out; have hy6 := bF_ HG8.out 6; obtain ⟨hu0, hu1, hu2, hu3, hu4, hu5, hu6⟩ := l8c7 HR8.out; obtain ⟨ht0, ht1, ht2, ht3, ht4, ht5⟩ := l8f6 HR8.out; have ht6 := bF_ HR8.out 6; have hn1 := HRG.out; have hn2 := HRG.out.symm))
    refine bodyPost_ret (results_cell_row rfl _ _ gr 76 #[.int .i64 t517, .int .i64 t518, .int .i64 t519, .int .i64 t520, .int .i64 t521, .int .i64 t522, .int .i64 (wrap64 (t523 + 1))] (0, 0) _ rfl (by refine blk_put (cs := #[.int .i64 t517, .int .i64 t518, .int .i64 t519, .int .i64 t520, .int .i64 t521, .int .i64 t522, .int .i64 0]) ?_ 6 _ rfl; refine blk_put (cs := #[.int .i64 t517, .int .i64 t518, .int .i64 t519, .int .i64 t520, .int .i64 t521, .int .i64 0, .int .i64 0]) ?_ 5 _ rfl; refine blk_put (cs := #[.int .i64 t517, .int .i64 t518, .int .i64 t519, .int .i64 t520, .int .i64 0, .int .i64 0, .int .i64 0]) ?_ 4 _ rfl; refine blk_put (cs := #[.int .i64 t517, .int .i64 t518, .int .i64 t519, .int .i64 0, .int .i64 0, .int .i64 0, .int .i64 0]) ?_ 3 _ rfl; refine blk_put (cs := #[.int .i64 t517, .int .i64 t518, .int .i64 0, .int .i64 0, .int .i64 0, .int .i64 0, .int .i64 0]) ?_ 2 _ rfl; refine blk_put (cs := #[.int .i64 t517, .int .i64 0, .int .i64 0, .int .i64 0, .int .i64 0, .int .i64 0, .int .i64 0]) ?_ 1 _ rfl; refine blk_put (cs := #[.int .i64 0, .int .i64 0, .int .i64 0, .int .i64 0, .int .i64 0, .int .i64 0, .int .i64 0]) ?_ 0 _ rfl; refine blk_far ?_ HRG.out _; exact HR8.out) Try.underlying76 rfl sqk) rfl ?_
    refine l8fin ?_ ?_
    ·first | rfl | (simp [errW_none, errW_some] <;> rfl)
    ·repeat (with_reducible first | exact HK8.out | refine l8K.set ?_ HBR.out | refine l8K.set ?_ HBG.out)
   ·rw [if_neg c9] at H
    have c9b0 : (t526 == 0) = false := beq_eq_false_iff_ne.mpr c9
    have c9b1 : (t526 != 0) = true := bne_iff_ne.mpr c9
    by_cases c30 : t526 = 1
    ·rw [if_pos c30] at H
     have c30b0 : (t526 == 1) = true := beq_iff_eq.mpr c30
     have c30b1 : (t526 != 1) = false := bne_eq_false_iff_eq.mpr c30
     clear c30
     simp only [Option.some.injEq, Prod.mk.injEq] at H
     obtain ⟨rfl, rfl, rfl, rfl, rfl, rfl, rfl, rfl, rfl⟩ := H
     go_wp2_with (first | ((with_reducible refine gate_callee (f := 105) rfl ?_); refine goesL_ (some 19) rfl rfl Try.func105 sqk rfl #[.pointer (some ⟨g, 0, none⟩), .int .i64 8] rfl sqm ?_; (with_reducible refine (spec_l1Below.calls g s0_0 t514 t515 8 t526 t527 t528 w0 _ ?side1 ?side2 A8.out).mono ?_); (case side1 => exact HK7.out.1); (case side2 => exact HK7.out.2.1); rintro e w8 ⟨rfl, hi, hb, hk⟩; refine ⟨_, rfl, ?_⟩; have HG8 := As_.mk (l8keep hk HG7.out HBG.out); have HR8 := As_.mk (l8keep hk HR7.out HBR.out); have HK8 := As_.mk (HK7.out.keep hi hb hk); clear hi hb hk HK7 HR7 HG7; obtain ⟨hz0, hz1, hz2, hz3, hz4, hz5, hz6⟩ := l8c7 HG8.out; obtain ⟨hy0, hy1, hy2, hy3, hy4, hy5⟩ := l8f6 HG8.out; have hy6 := bF_ HG8.out 6; obtain ⟨hu0, hu1, hu2, hu3, hu4, hu5, hu6⟩ := l8c7 HR8.out; obtain ⟨ht0, ht1, ht2, ht3, ht4, ht5⟩ := l8f6 HR8.out; have ht6 := bF_ HR8.out 6; have hn1 := HRG.out; have hn2 := HRG.out.symm))
     refine bodyPost_ret (results_cell_row rfl _ _ gr 76 #[.int .i64 t517, .int .i64 t518, .int .i64 t519, .int .i64 t520, .int .i64 t521, .int .i64 (wrap64 (t522 + 1)), .int .i64 t523] (0, 0) _ rfl (by refine blk_put (cs := #[.int .i64 t517, .int .i64 t518, .int .i64 t519, .int .i64 t520, .int .i64 t521, .int .i64 (wrap64 (t522 + 1)), .int .i64 0]) ?_ 6 _ rfl; refine blk_put (cs := #[.int .i64 t517, .int .i64 t518, .int .i64 t519, .int .i64 t520, .int .i64 t521, .int .i64 0, .int .i64 0]) ?_ 5 _ rfl; refine blk_put (cs := #[.int .i64 t517, .int .i64 t518, .int .i64 t519, .int .i64 t520, .int .i64 0, .int .i64 0, .int .i64 0]) ?_ 4 _ rfl; refine blk_put (cs := #[.int .i64 t517, .int .i64 t518, .int .i64 t519, .int .i64 0, .int .i64 0, .int .i64 0, .int .i64 0]) ?_ 3 _ rfl; refine blk_put (cs := #[.int .i64 t517, .int .i64 t518, .int .i64 0, .int .i64 0, .int .i64 0, .int .i64 0, .int .i64 0]) ?_ 2 _ rfl; refine blk_put (cs := #[.int .i64 t517, .int .i64 0, .int .i64 0, .int .i64 0, .int .i64 0, .int .i64 0, .int .i64 0]) ?_ 1 _ rfl; refine blk_put (cs := #[.int .i64 0, .int .i64 0, .int .i64 0, .int .i64 0, .int .i64 0, .int .i64 0, .int .i64 0]) ?_ 0 _ rfl; refine blk_far ?_ HRG.out _; exact HR8.out) Try.underlying76 rfl sqk) rfl ?_
     refine l8fin ?_ ?_
     ·first | rfl | (simp [errW_none, errW_some] <;> rfl)
     ·repeat (with_reducible first | exact HK8.out | refine l8K.set ?_ HBR.out | refine l8K.set ?_ HBG.out)
    ·rw [if_neg c30] at H
     have c30b0 : (t526 == 1) = false := beq_eq_false_iff_ne.mpr c30
     have c30b1 : (t526 != 1) = true := bne_iff_ne.mpr c30
     by_cases c51 : t526 = 2
     ·rw [if_pos c51] at H
      have c51b0 : (t526 == 2) = true := beq_iff_eq.mpr c51
      have c51b1 : (t526 != 2) = false := bne_eq_false_iff_eq.mpr c51
      clear c51
      obtain ⟨⟨t529, t530, t531⟩, A52, H⟩ := bA H
      dsimp only at H
      simp only [Option.some.injEq, Prod.mk.injEq] at H
      obtain ⟨rfl, rfl, rfl, rfl, rfl, rfl, rfl, rfl, rfl⟩ := H
      go_wp2_with (first | ((with_reducible refine gate_callee (f := 105) rfl ?_); refine goesL_ (some 19) rfl rfl Try.func105 sqk rfl #[.pointer (some ⟨g, 0, none⟩), .int .i64 8] rfl sqm ?_; (with_reducible refine (spec_l1Below.calls g s0_0 t514 t515 8 t526 t527 t528 w0 _ ?side1 ?side2 A8.out).mono ?_); (case side1 => exact HK7.out.1); (case side2 => exact HK7.out.2.1); rintro e w8 ⟨rfl, hi, hb, hk⟩; refine ⟨_, rfl, ?_⟩; have HG8 := As_.mk (l8keep hk HG7.out HBG.out); have HR8 := As_.mk (l8keep hk HR7.out HBR.out); have HK8 := As_.mk (HK7.out.keep hi hb hk); clear hi hb hk HK7 HR7 HG7) | ((with_reducible refine gate_callee (f := 105) rfl ?_); refine goesL_ (some 37) rfl rfl Try.func105 sqk rfl #[.pointer (some ⟨g, 0, none⟩), .int .i64 4] rfl sqm ?_; (with_reducible refine (spec_l1Below.calls g s0_0 t527 t528 4 t529 t530 t531 w0 _ ?side1 ?side2 A52.out).mono ?_); (case side1 => exact HK8.out.1); (case side2 => exact HK8.out.2.1); rintro e w8 ⟨rfl, hi, hb, hk⟩; refine ⟨_, rfl, ?_⟩; have HG9 := As_.mk (l8keep hk HG8.out HBG.out); have HR9 := As_.mk (l8keep hk HR8.out HBR.out); have HK9 := As_.mk (HK8.out.keep hi hb hk); clear hi hb hk HK8 HR8 HG8; obtain ⟨hz0, hz1, hz2, hz3, hz4, hz5, hz6⟩ := l8c7 HG9.out; obtain ⟨hy0, hy1, hy2, hy3, hy4, hy5⟩ := l8f6 HG9.out; have hy6 := bF_ HG9.out 6; obtain ⟨hu0, hu1, hu2, hu3, hu4, hu5, hu6⟩ := l8c7 HR9.out; obtain ⟨ht0, ht1, ht2, ht3, ht4, ht5⟩ := l8f6 HR9.out; have ht6 := bF_ HR9.out 6; have hn1 := HRG.out; have hn2 := HRG.out.symm))
      refine bodyPost_ret (results_cell_row rfl _ _ gr 76 #[.int .i64 t517, .int .i64 t518, .int .i64 t519, .int .i64 t529, .int .i64 t521, .int .i64 t522, .int .i64 t523] (0, 0) _ rfl (by refine blk_put (cs := #[.int .i64 t517, .int .i64 t518, .int .i64 t519, .int .i64 t529, .int .i64 t521, .int .i64 t522, .int .i64 0]) ?_ 6 _ rfl; refine blk_put (cs := #[.int .i64 t517, .int .i64 t518, .int .i64 t519, .int .i64 t529, .int .i64 t521, .int .i64 0, .int .i64 0]) ?_ 5 _ rfl; refine blk_put (cs := #[.int .i64 t517, .int .i64 t518, .int .i64 t519, .int .i64 t529, .int .i64 0, .int .i64 0, .int .i64 0]) ?_ 4 _ rfl; refine blk_put (cs := #[.int .i64 t517, .int .i64 t518, .int .i64 t519, .int .i64 0, .int .i64 0, .int .i64 0, .int .i64 0]) ?_ 3 _ rfl; refine blk_put (cs := #[.int .i64 t517, .int .i64 t518, .int .i64 0, .int .i64 0, .int .i64 0, .int .i64 0, .int .i64 0]) ?_ 2 _ rfl; refine blk_put (cs := #[.int .i64 t517, .int .i64 0, .int .i64 0, .int .i64 0, .int .i64 0, .int .i64 0, .int .i64 0]) ?_ 1 _ rfl; refine blk_put (cs := #[.int .i64 0, .int .i64 0, .int .i64 0, .int .i64 0, .int .i64 0, .int .i64 0, .int .i64 0]) ?_ 0 _ rfl; refine blk_far ?_ HRG.out _; exact HR9.out) Try.underlying76 rfl sqk) rfl ?_
      refine l8fin ?_ ?_
      ·first | rfl | (simp [errW_none, errW_some] <;> rfl)
      ·repeat (with_reducible first | exact HK9.out | refine l8K.set ?_ HBR.out | refine l8K.set ?_ HBG.out)
     ·rw [if_neg c51] at H
      have c51b0 : (t526 == 2) = false := beq_eq_false_iff_ne.mpr c51
      have c51b1 : (t526 != 2) = true := bne_iff_ne.mpr c51
      simp only [Option.some.injEq, Prod.mk.injEq] at H
      obtain ⟨rfl, rfl, rfl, rfl, rfl, rfl, rfl, rfl, rfl⟩ := H
      go_wp2_with (first | ((with_reducible refine gate_callee (f := 105) rfl ?_); refine goesL_ (some 19) rfl rfl Try.func105 sqk rfl #[.pointer (some ⟨g, 0, none⟩), .int .i64 8] rfl sqm ?_; (with_reducible refine (spec_l1Below.calls g s0_0 t514 t515 8 t526 t527 t528 w0 _ ?side1 ?side2 A8.out).mono ?_); (case side1 => exact HK7.out.1); (case side2 => exact HK7.out.2.1); rintro e w8 ⟨rfl, hi, hb, hk⟩; refine ⟨_, rfl, ?_⟩; have HG8 := As_.mk (l8keep hk HG7.out HBG.out); have HR8 := As_.mk (l8keep hk HR7.out HBR.out); have HK8 := As_.mk (HK7.out.keep hi hb hk); clear hi hb hk HK7 HR7 HG7; obtain ⟨hz0, hz1, hz2, hz3, hz4, hz5, hz6⟩ := l8c7 HG8.out; obtain ⟨hy0, hy1, hy2, hy3, hy4, hy5⟩ := l8f6 HG8.out; have hy6 := bF_ HG8.out 6; obtain ⟨hu0, hu1, hu2, hu3, hu4, hu5, hu6⟩ := l8c7 HR8.out; obtain ⟨ht0, ht1, ht2, ht3, ht4, ht5⟩ := l8f6 HR8.out; have ht6 := bF_ HR8.out 6; have hn1 := HRG.out; have hn2 := HRG.out.symm))
      refine bodyPost_ret (results_cell_row rfl _ _ gr 76 #[.int .i64 t517, .int .i64 t518, .int .i64 t519, .int .i64 t520, .int .i64 t521, .int .i64 t522, .int .i64 t523] (0, 0) _ rfl (by refine blk_put (cs := #[.int .i64 t517, .int .i64 t518, .int .i64 t519, .int .i64 t520, .int .i64 t521, .int .i64 t522, .int .i64 0]) ?_ 6 _ rfl; refine blk_put (cs := #[.int .i64 t517, .int .i64 t518, .int .i64 t519, .int .i64 t520, .int .i64 t521, .int .i64 0, .int .i64 0]) ?_ 5 _ rfl; refine blk_put (cs := #[.int .i64 t517, .int .i64 t518, .int .i64 t519, .int .i64 t520, .int .i64 0, .int .i64 0, .int .i64 0]) ?_ 4 _ rfl; refine blk_put (cs := #[.int .i64 t517, .int .i64 t518, .int .i64 t519, .int .i64 0, .int .i64 0, .int .i64 0, .int .i64 0]) ?_ 3 _ rfl; refine blk_put (cs := #[.int .i64 t517, .int .i64 t518, .int .i64 0, .int .i64 0, .int .i64 0, .int .i64 0, .int .i64 0]) ?_ 2 _ rfl; refine blk_put (cs := #[.int .i64 t517, .int .i64 0, .int .i64 0, .int .i64 0, .int .i64 0, .int .i64 0, .int .i64 0]) ?_ 1 _ rfl; refine blk_put (cs := #[.int .i64 0, .int .i64 0, .int .i64 0, .int .i64 0, .int .i64 0, .int .i64 0, .int .i64 0]) ?_ 0 _ rfl; exact HR8.out) Try.underlying76 rfl sqk) rfl ?_
      refine l8fin ?_ ?_
      ·first | rfl | (simp [errW_none, errW_some] <;> rfl)
      ·repeat (with_reducible first | exact HK8.out | refine l8K.set ?_ HBR.out | refine l8K.set ?_ HBG.out)
  ·rw [if_neg c6] at H
   exact absurd H (by simp)
 ·rw [if_neg c5] at H
  exact absurd H (by simp)
/-! ### spec_DrawIsBelieved: function 60 -/
def spec_DrawIsBelieved.f (k : Nat) (l0 : List Int) : Option ((List (S48)) × Int × Int × Int × Int × Int × Int × Int) := (spec_l1New.f k l0).bind fun bt533 => ((spec_l8Issuers.f).bind fun t537 => ((spec_l8Stated.f k bt533.1 bt533.2.1 bt533.2.2).bind fun bt540 => (some (t537, bt540.1, bt540.2.1, bt540.2.2.1, bt540.2.2.2.1, bt540.2.2.2.2.1, bt540.2.2.2.2.2.1, bt540.2.2.2.2.2.2.1))))
theorem z60_0 {Q : Prop} (g : Q := by repeat (first | (with_reducible first | exact HB.out | apply bA_ | apply bN_ | apply bD_ | refine bS_ ?_ (IsS125.ge HI536.out) | refine bS_ ?_ GE532.out) | exact HB.out)) : Q := g
theorem z60_1 {Q : Prop} (g : Q := by repeat (first | (with_reducible first | exact HI536.out | apply IsS125.alloc | apply IsS125.drewN | apply IsS125.drew | apply IsS125.set_1 | apply IsS125.set_2 | refine IsS125.far ?_ NB536_532.out _) | exact HI536.out)) : Q := g
set_option maxHeartbeats 8000000 in
set_option maxRecDepth 100000 in
theorem spec_DrawIsBelieved.calls (k : Nat) (A0 : Option Addr) (c0 : Nat) (l0 : List Int) (r1 : List (S48)) (r2 : Int) (r3 : Int) (r4 : Int) (r5 : Int) (r6 : Int) (r7 : Int) (r8 : Int) (w : World) (hr0 : Kd.C (Kd.int .u8) w A0 l0.length l0) (hc0 : l0.length ≤ c0) (h : spec_DrawIsBelieved.f k l0 = some (r1, r2, r3, r4, r5, r6, r7, r8)) :
  Calls Try.prog 60 #[.slice A0 l0.length c0] w fun e w' => ∃ v0_ : Value, e = .returned (.tuple #[v0_, .agg #[.int .i64 r2, .int .i64 r3, .int .i64 r4, .int .i64 r5, .int .i64 r6, .int .i64 r7, .int .i64 r8]]) ∧ Kd.N k48 48 w' w.heap.size (fun k_ => (w.heap.size ≤ k_)) v0_ r1 ∧ Below w.heap.size w w' := by
 have hu76 := Try.underlying76
 have HR0 := As_.mk hr0
 have HC0 := As_.mk hc0
 clear hr0 hc0
 have HB := As_.mk (Below.refl w.heap.size w)
 have H : ((spec_l1New.f k l0).bind fun bt533 => ((spec_l8Issuers.f).bind fun t537 => ((spec_l8Stated.f k bt533.1 bt533.2.1 bt533.2.2).bind fun bt540 => (some (t537, bt540.1, bt540.2.1, bt540.2.2.1, bt540.2.2.2.1, bt540.2.2.2.2.1, bt540.2.2.2.2.2.1, bt540.2.2.2.2.2.2.1))))) = some (r1, r2, r3, r4, r5, r6, r7, r8) := h
 clear h
 obtain ⟨⟨t533, t534, t535⟩, A2, H⟩ := bA H
 dsimp only at H
 obtain ⟨t537, A3, H⟩ := bA H
 obtain ⟨⟨t540, t541, t542, t543, t544, t545, t546, t547, t548⟩, A4, H⟩ := bA H
 dsimp only at H
 simp only [Option.some.injEq, Prod.mk.injEq] at H
 obtain ⟨rfl, rfl, rfl, rfl, rfl, rfl, rfl, rfl⟩ := H
 go_enter Try.func60, Try.ntmps60
 go_wp2_with (first | ((with_reducible refine gate_dst (N := 3) rfl ?_); refine bx (N := 3) (cs := #[.int .i64 0, .int .i64 0, .int .i64 0, .int .i64 0, .int .i64 0, .int .i64 0, .int .i64 0]) (t := 76) ?_; intro gb532 hg w5 hbox hb; have BK532 := As_.mk (hbox); have GW532 := As_.mk ((by rw [hg]; exact (below_size sqh) : w.heap.size ≤ gb532)); have GE532 := As_.mk ((by rw [hg]; exact (below_size sqh) : w.heap.size ≤ gb532)); replace HB := As_.mk (below_step sqh hb); clear hb hbox hg) | ((with_reducible refine gate_callee (f := 98) rfl ?_); refine goesL_ (some 6) rfl rfl Try.func98 sqk rfl #[.slice A0 l0.length c0] rfl sqm ?_; (with_reducible refine (spec_l1New.calls k _ _ l0 t533 t534 t535 w _ ?side1 ?side2 ?side3 A2.out).mono ?_); (case side1 => exact sqh); (case side2 => exact HR0.out); (case side3 => exact HC0.out); rintro e w6 ⟨g536, rfl, hi, hb, hb2⟩; refine ⟨_, rfl, ?_⟩; replace HB := As_.mk (hb); have HI536 := As_.mk (hi); have NB536_532 := As_.mk (IsS125.ne_blk hi (blk_below (bo BK532) hb2) (by decide)); have NB532_536 := As_.mk (Ne.symm (IsS125.ne_blk hi (blk_below (bo BK532) hb2) (by decide))); replace BK532 := As_.mk (blk_below (bo BK532) hb2); (try clear hb); (try clear hb2); (try clear hi)) | ((with_reducible refine gate_callee (f := 101) rfl ?_); refine goesL_ (some 7) rfl rfl Try.func101 sqk rfl #[] rfl sqm ?_; (with_reducible refine (spec_l8Issuers.calls  t537 _ A3.out).mono ?_); rintro e w7 ⟨v538, rfl, ho0, hb⟩; refine ⟨_, rfl, ?_⟩; have HO539 := As_.mk (Kd.N_lower (Kd.N_mono (ok' := fun k_ => (w.heap.size ≤ k_) ∧ k_ ≠ gb532 ∧ k_ ≠ g536) ho0 (fun k_ hk_ => ⟨(Nat.le_trans (below_size z60_0) hk_), (Kd.freshB (bo BK532) k_ hk_), (IsS125.fresh z60_1 k_ hk_)⟩)) (below_size z60_0)); replace BK532 := As_.mk (blk_below (bo BK532) hb); replace HB := As_.mk (below_step z60_0 hb); replace HI536 := As_.mk (IsS125.below z60_1 hb); (try clear hb); (try clear ho0)) | ((with_reducible refine gate_callee (f := 102) rfl ?_); refine goesL_ (some 9) rfl rfl Try.func102 sqk rfl #[.pointer (some ⟨g536, 0, none⟩)] rfl sqm ?_; (with_reducible refine (spec_l8Stated.calls k g536 t533 t534 t535 t540 t541 t542 t543 t544 t545 t546 t547 t548 w _ ?side1 ?side2 A4.out).mono ?_); (case side1 => repeat (first | (with_reducible first | exact HI536.out | apply IsS125.alloc | apply IsS125.drewN | apply IsS125.drew | apply IsS125.set_1 | apply IsS125.set_2 | refine IsS125.far ?_ NB536_532.out _) | exact HI536.out)); (case side2 => exact z60_0); rintro e w8 ⟨rfl, hi, hb, hk⟩; refine ⟨_, rfl, ?_⟩; replace BK532 := As_.mk (KeepBut.blk hk (g' := gb532) (o := .cells #[.int .i64 0, .int .i64 0, .int .i64 0, .int .i64 0, .int .i64 0, .int .i64 0, .int .i64 0] 76 (0, 0)) (sqb BK532.out) NB532_536.out (by simp)); replace HO539 := As_.mk (Kd.N_mono (Kd.N_keep (Kd.N_mono (ok := fun k_ => (((w.heap.size ≤ k_)) ∧ (k_ ≠ gb532 ∧ k_ ≠ g536))) (by (with_reducible repeat (first | apply Kd.N_alloc | apply Kd.N_drewN | apply Kd.N_drew)); exact HO539.out) (fun k_ hk_ => (⟨hk_, hk_.2.2⟩ : _ ∧ k_ ≠ g536))) hk (fun _ h => h.2)) (fun _ h => h.1)); replace HB := As_.mk (hb); replace HI536 := As_.mk (hi); (try clear hb); (try clear hk); (try clear hi); have hnb9 := NB532_536.out; have hnc9 := NB536_532.out; obtain ⟨hcz10_0, hcz10_1, hcz10_2, hcz10_3, hcz10_4, hcz10_5, hcz10_6, hfz10_0, hfz10_1, hfz10_2, hfz10_3, hfz10_4, hfz10_5, hfz10_6⟩ := sd7 BK532.out))
 refine bodyPost_ret (results_tc rfl _ _ gb532 76 #[.int .i64 t540, .int .i64 t541, .int .i64 t542, .int .i64 t543, .int .i64 t544, .int .i64 t545, .int .i64 t546] (0, 0) _ rfl (by (with_reducible repeat (first | refine blk_drewN ?_ _ | refine blk_drew ?_ | refine blk_alloc ?_ _)); refine blk_put (cs := #[.int .i64 t540, .int .i64 t541, .int .i64 t542, .int .i64 t543, .int .i64 t544, .int .i64 t545, .int .i64 0]) ?_ 6 _ rfl; (with_reducible repeat (first | refine blk_drewN ?_ _ | refine blk_drew ?_ | refine blk_alloc ?_ _)); refine blk_put (cs := #[.int .i64 t540, .int .i64 t541, .int .i64 t542, .int .i64 t543, .int .i64 t544, .int .i64 0, .int .i64 0]) ?_ 5 _ rfl; (with_reducible repeat (first | refine blk_drewN ?_ _ | refine blk_drew ?_ | refine blk_alloc ?_ _)); refine blk_put (cs := #[.int .i64 t540, .int .i64 t541, .int .i64 t542, .int .i64 t543, .int .i64 0, .int .i64 0, .int .i64 0]) ?_ 4 _ rfl; (with_reducible repeat (first | refine blk_drewN ?_ _ | refine blk_drew ?_ | refine blk_alloc ?_ _)); refine blk_put (cs := #[.int .i64 t540, .int .i64 t541, .int .i64 t542, .int .i64 0, .int .i64 0, .int .i64 0, .int .i64 0]) ?_ 3 _ rfl; (with_reducible repeat (first | refine blk_drewN ?_ _ | refine blk_drew ?_ | refine blk_alloc ?_ _)); refine blk_put (cs := #[.int .i64 t540, .int .i64 t541, .int .i64 0, .int .i64 0, .int .i64 0, .int .i64 0, .int .i64 0]) ?_ 2 _ rfl; (with_reducible repeat (first | refine blk_drewN ?_ _ | refine blk_drew ?_ | refine blk_alloc ?_ _)); refine blk_put (cs := #[.int .i64 t540, .int .i64 0, .int .i64 0, .int .i64 0, .int .i64 0, .int .i64 0, .int .i64 0]) ?_ 1 _ rfl; (with_reducible repeat (first | refine blk_drewN ?_ _ | refine blk_drew ?_ | refine blk_alloc ?_ _)); refine blk_put (cs := #[.int .i64 0, .int .i64 0, .int .i64 0, .int .i64 0, .int .i64 0, .int .i64 0, .int .i64 0]) ?_ 0 _ rfl; (with_reducible repeat (first | refine blk_drewN ?_ _ | refine blk_drew ?_ | refine blk_alloc ?_ _)); exact BK532.out) Try.underlying76 rfl (by kernel_rfl)) rfl ?_
 exact ⟨_, sqe, by (with_reducible repeat (first | apply Kd.N_alloc | apply Kd.N_drewN | apply Kd.N_drew)); exact Kd.N_mono (Kd.N_far (p := ⟨gb532, 6, none⟩) (Kd.N_far (p := ⟨gb532, 5, none⟩) (Kd.N_far (p := ⟨gb532, 4, none⟩) (Kd.N_far (p := ⟨gb532, 3, none⟩) (Kd.N_far (p := ⟨gb532, 2, none⟩) (Kd.N_far (p := ⟨gb532, 1, none⟩) (Kd.N_far (p := ⟨gb532, 0, none⟩) (Kd.N_mono HO539.out (fun k_ hk => (⟨hk, hk.2.1⟩ : _ ∧ k_ ≠ gb532))) (fun _ hk => hk.2) (.int .i64 t540)) (fun _ hk => hk.2) (.int .i64 t541)) (fun _ hk => hk.2) (.int .i64 t542)) (fun _ hk => hk.2) (.int .i64 t543)) (fun _ hk => hk.2) (.int .i64 t544)) (fun _ hk => hk.2) (.int .i64 t545)) (fun _ hk => hk.2) (.int .i64 t546)) (fun _ hk => hk.1.1), by repeat (first | (with_reducible first | exact HB.out | apply bA_ | apply bN_ | apply bD_ | refine bS_ ?_ (IsS125.ge HI536.out) | refine bS_ ?_ GE532.out) | exact HB.out)⟩

end Go.Proofs.Ytabpgiebhgkfhaa.XFnIssuers
