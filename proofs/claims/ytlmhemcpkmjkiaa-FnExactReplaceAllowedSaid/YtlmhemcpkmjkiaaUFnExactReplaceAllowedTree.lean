/- Trees of the call's own, no two of whose parts lead to one block: a kind like the print's slice, whose elements lie apart. Conditions: none. -/
import Derived.Test.YtlmhemcpkmjkiaaTFnExactReplaceAllowedWords
import Derived.Test.YtlmhemcpkmjkiaaTFnExactReplaceAllowedLast
import Derived.Test.YtlmhemcpkmjkiaaTFnExactReplaceAllowedApart
import Derived.Test.YtlmhemcpkmjkiaaTFnExactReplaceAllowedKept
import Derived.Test.YtlmhemcpkmjkiaaTFnExactReplaceAllowedMore
namespace Go.Proofs.YtlmhemcpkmjkiaaTree
open Go.RowKit Go.Proofs.YtlmhemcpkmjkiaaW.PrintWords
set_option linter.unusedVariables false

/-- A slice whose elements, of the call's own, lie apart. -/
def sliceS {α : Type} (e : Nat) (d : Kd α) : Kd (List α) where
  sz := 1
  E := e :: d.E
  K := (Kd.slice e d).K
  M := fun w base ok xs cs => ∃ v, cs = [v] ∧ Kd.S d e w base ok v xs
  K_len := (Kd.slice e d).K_len
  K_one := (Kd.slice e d).K_one
  K_below := (Kd.slice e d).K_below
  K_of_M := by
    rintro w base ok x cs ⟨v, rfl, h⟩
    obtain ⟨A, c, rfl, hl, hr⟩ := Kd.S_reads h
    exact ⟨A, c, rfl, hl, hr⟩
  M_mono := by
    rintro w base ok ok' x cs hok ⟨v, rfl, h⟩
    exact ⟨v, rfl, Kd.S_mono h hok⟩
  M_bound := by
    rintro w base ok x cs ⟨v, rfl, h⟩
    exact ⟨v, rfl, Kd.S_bound h⟩
  M_move := by
    rintro w w1 base ok x cs hm ⟨v, rfl, h⟩
    exact ⟨v, rfl, Kd.S_move h hm⟩
  M_lower := by
    rintro w base base' ok x cs hb ⟨v, rfl, h⟩
    exact ⟨v, rfl, Kd.S_lower h hb⟩
theorem S_imp {α : Type} {d d' : Kd α} (hs : d.sz = d'.sz) (h : ∀ w base ok x cs, d.M w base ok x cs → d'.M w base ok x cs) {e : Nat} {w : World} {base : Nat} {ok : Nat → Prop} {v : Value} {xs : List α} (hr : Kd.S d e w base ok v xs) : Kd.S d' e w base ok v xs := by
  obtain ⟨f, hr⟩ := hr
  exact ⟨f, Kd.R_imp (d := Kd.tag f d) (d' := Kd.tag f d') hs (fun w base ok x cs hp => h w base _ x.1 cs hp) hr⟩
theorem mono_sliceS {α β : Type} (e : Nat) {G : Kd α → Kd β} (hG : Kd.Mono G) : Kd.Mono (fun d => sliceS e (G d)) := by
  refine ⟨fun _ _ _ => rfl, (Kd.mono_slice e hG).K, ?_⟩
  rintro d d' hs h w base ok x cs ⟨v, rfl, hr⟩
  exact ⟨v, rfl, S_imp (hG.sz d d' hs) (hG.M d d' hs h) hr⟩
theorem sub_sliceS {α β : Type} {E : List Nat} (e : Nat) {G : Kd α → Kd β} (he : e ∈ E) (hG : Kd.Sub G E) : Kd.Sub (fun d => sliceS e (G d)) E := fun d h q hq => Kd.sub_slice e he hG d h q hq
section
variable {α : Type} {F : Kd α → Kd α} {sz : Nat} {E : List Nat} {hs : ∀ n, (Kd.upto F sz E n).sz = sz} {hE : ∀ n q, q ∈ (Kd.upto F sz E n).E → q ∈ E}
theorem fix_S {n : Nat} {e : Nat} {w : World} {base : Nat} {ok : Nat → Prop} {v : Value} {xs : List α} (h : Kd.S (Kd.upto F sz E n) e w base ok v xs) : Kd.S (Kd.fix F sz E hs hE) e w base ok v xs :=
  S_imp (d' := Kd.fix F sz E hs hE) (hs n) (fun w base ok x cs hp => (⟨n, hp⟩ : ∃ n, (Kd.upto F sz E n).M w base ok x cs)) h
theorem fix_S_back (hm : Kd.Mono F) {e : Nat} {w : World} {base : Nat} {ok : Nat → Prop} {v : Value} {xs : List α} (h : Kd.S (Kd.fix F sz E hs hE) e w base ok v xs) : ∃ n, Kd.S (Kd.upto F sz E n) e w base ok v xs := by
  obtain ⟨f, h0, inner, ho, hr⟩ := h
  obtain ⟨N, hN⟩ := Kd.reps_bounded (R := fun n (p : α × Nat) c => (Kd.upto F sz E n).M w base (fun k => (ok k ∧ some k ≠ v.ownBlock) ∧ f k = p.2) p.1 c) (fun n m p c hnm hp => Kd.upto_M_le hm hs hnm hp) hr
  refine ⟨N, f, h0, inner, ?_, ?_⟩
  · show w.ownsRow base e (Kd.upto F sz E N).sz v _ inner
    rw [hs N]; exact ho
  · show Reps _ (Kd.upto F sz E N).sz _ inner
    rw [hs N]; exact hN
theorem upto_S_le (hm : Kd.Mono F) (hs : ∀ n, (Kd.upto F sz E n).sz = sz) {n m : Nat} (hnm : n ≤ m) {e : Nat} {w : World} {base : Nat} {ok : Nat → Prop} {v : Value} {xs : List α} (h : Kd.S (Kd.upto F sz E n) e w base ok v xs) : Kd.S (Kd.upto F sz E m) e w base ok v xs :=
  S_imp (by rw [hs n, hs m]) (fun _ _ _ _ _ hp => Kd.upto_M_le hm hs hnm hp) h
end
/-- An elder row and one that is new since: where the one's blocks end the other's begin. -/
theorem S_split {α β : Type} {d : Kd α} {d' : Kd β} {e e' : Nat} {W w1 : World} {base base' : Nat} {ok ok' : Nat → Prop} {u v : Value} {xs : List α} {ys : List β} (hu : Kd.S d e W base ok u xs) (hn : Kd.S d' e' w1 W.heap.size ok' v ys) (hb : Below W.heap.size W w1) (hbase : base' ≤ W.heap.size) :
    ∃ NC : Nat, Aside0 (Kd.S d e w1 base (fun k => ok k ∧ k < NC) u xs) ∧ Aside0 (Kd.S d' e' w1 base' (fun k => ok' k ∧ NC ≤ k) v ys) :=
  ⟨W.heap.size, ⟨Kd.S_old hu hb⟩, ⟨Kd.S_lower (Kd.S_mono (Kd.S_bound hn) (fun _ hk => ⟨hk.1, hk.2.1⟩)) hbase⟩⟩
/-- Whose blocks are whose, in a literal of one element, of two. -/
def okj1 (ok : Nat → Prop) (j k : Nat) : Prop := j = 0 ∧ ok k
def okj2 (ok : Nat → Prop) (NC j k : Nat) : Prop := (j = 0 ∧ ok k ∧ k < NC) ∨ (j = 1 ∧ ok k ∧ NC ≤ k)
theorem okj1_ap (ok : Nat → Prop) : ∀ i j k, okj1 ok i k → okj1 ok j k → i = j := fun i j k hi hj => hi.1.trans hj.1.symm
theorem okj1_ok (ok : Nat → Prop) : ∀ j k, okj1 ok j k → ok k := fun j k h => h.2
theorem okj2_ap (ok : Nat → Prop) (NC : Nat) : ∀ i j k, okj2 ok NC i k → okj2 ok NC j k → i = j := by
  rintro i j k (⟨rfl, h⟩ | ⟨rfl, h⟩) (⟨rfl, g⟩ | ⟨rfl, g⟩)
  · rfl
  · omega
  · omega
  · rfl
theorem okj2_ok (ok : Nat → Prop) (NC : Nat) : ∀ j k, okj2 ok NC j k → ok k := by
  rintro j k (⟨_, h⟩ | ⟨_, h⟩)
  · exact h.1
  · exact h.1
theorem lit1 {α : Type} {d : Kd α} {W : World} {base : Nat} {ok : Nat → Prop} {x : α} {c : List Value} (h : d.M W base ok x c) : ∀ j y, [x][j]? = some y → d.M W base (okj1 ok j) y ((c.drop (j * d.sz)).take d.sz) := by
  intro j y hj
  have hl := d.K_len (d.K_of_M h)
  match j with
  | 0 =>
    obtain rfl : x = y := by simpa using hj
    rw [Nat.zero_mul, List.drop_zero, List.take_of_length_le (by omega)]
    exact d.M_mono (fun k hk => ⟨rfl, hk⟩) h
  | j + 1 => simp at hj
theorem lit2 {α : Type} {d : Kd α} {W : World} {base NC : Nat} {ok : Nat → Prop} {x0 x1 : α} {c0 c1 : List Value} (h0 : d.M W base (fun k => ok k ∧ k < NC) x0 c0) (h1 : d.M W base (fun k => ok k ∧ NC ≤ k) x1 c1) :
    ∀ j y, [x0, x1][j]? = some y → d.M W base (okj2 ok NC j) y (((c0 ++ c1).drop (j * d.sz)).take d.sz) := by
  intro j y hj
  have hl0 := d.K_len (d.K_of_M h0)
  have hl1 := d.K_len (d.K_of_M h1)
  match j with
  | 0 =>
    obtain rfl : x0 = y := by simpa using hj
    rw [Nat.zero_mul, List.drop_zero, List.take_append_of_le_length (by omega), List.take_of_length_le (by omega)]
    exact d.M_mono (fun k hk => .inl ⟨rfl, hk⟩) h0
  | 1 =>
    obtain rfl : x1 = y := by simpa using hj
    rw [Nat.one_mul, ← hl0, List.drop_left, hl0, List.take_of_length_le (by omega)]
    exact d.M_mono (fun k hk => .inr ⟨rfl, hk⟩) h1
  | j + 2 => simp at hj
/-- What a call has made lies between two bounds. -/
theorem S_made {α : Type} {d : Kd α} {e last base : Nat} {Wc w1 : World} {ok : Nat → Prop} {v : Value} {xs : List α} (h : Kd.S d e w1 Wc.heap.size ok v xs) (hs : last ≤ Wc.heap.size) (hb : Below Wc.heap.size Wc w1) (hbase : base ≤ Wc.heap.size) :
    ∃ L U : Nat, Aside0 (last ≤ L ∧ L ≤ U) ∧ Aside0 (U ≤ w1.heap.size) ∧ Aside0 (Kd.S d e w1 base (fun x => L ≤ x ∧ x < U) v xs) :=
  ⟨Wc.heap.size, w1.heap.size, ⟨hs, hb.size⟩, ⟨Nat.le_refl _⟩, ⟨Kd.S_lower (Kd.S_mono (Kd.S_bound h) (fun _ hk => ⟨hk.2.1, hk.2.2.1⟩)) hbase⟩⟩
theorem R_made {α : Type} {d : Kd α} {e last base : Nat} {Wc w1 : World} {ok : Nat → Prop} {v : Value} {xs : List α} (h : d.R e w1 Wc.heap.size ok v xs) (hs : last ≤ Wc.heap.size) (hb : Below Wc.heap.size Wc w1) (hbase : base ≤ Wc.heap.size) :
    ∃ L U : Nat, Aside0 (last ≤ L ∧ L ≤ U) ∧ Aside0 (U ≤ w1.heap.size) ∧ Aside0 (d.R e w1 base (fun x => L ≤ x ∧ x < U) v xs) :=
  ⟨Wc.heap.size, w1.heap.size, ⟨hs, hb.size⟩, ⟨Nat.le_refl _⟩, ⟨Kd.R_lower (Kd.R_mono (Kd.R_bound h) (fun _ hk => ⟨hk.2.1, hk.2.2.1⟩)) hbase⟩⟩
/-- A row of whole numbers lies in one block, or in none. -/
theorem R_box {α : Type} {d : Kd α} {e n : Nat} {w1 : World} {ok : Nat → Prop} {v : Value} {xs : List α} (h : d.R e w1 n ok v xs) (hE : d.E = []) (hn : n ≤ w1.heap.size) :
    ∃ L U : Nat, (n ≤ L ∧ L ≤ U ∧ U ≤ w1.heap.size) ∧ d.R e w1 n (fun x => L ≤ x ∧ x < U) v xs ∧ ((L = n ∧ U = n) ∨ (v.ownBlock = some L ∧ U = L + 1)) := by
  cases hv : v.ownBlock with
  | none => exact ⟨n, n, ⟨Nat.le_refl _, Nat.le_refl _, hn⟩, Kd.R_mono (Kd.R_tight hE h) (fun k hk => by rw [hv] at hk; cases hk), .inl ⟨rfl, rfl⟩⟩
  | some b =>
    obtain ⟨_, h1, h2, _⟩ := (Kd.R_bound h).1 b hv
    exact ⟨b, b + 1, ⟨h1, Nat.le_succ _, h2⟩, Kd.R_mono (Kd.R_tight hE h) (fun k hk => by rw [hv] at hk; cases hk; exact ⟨Nat.le_refl _, Nat.lt_succ_self _⟩), .inr ⟨rfl, rfl⟩⟩
theorem box_apart {n L U L' U' : Nat} {u v : Value} (hne : ∀ k, u.ownBlock = some k → some k ≠ v.ownBlock) (hL : n ≤ L) (hL' : n ≤ L') (h : (L = n ∧ U = n) ∨ (u.ownBlock = some L ∧ U = L + 1)) (h' : (L' = n ∧ U' = n) ∨ (v.ownBlock = some L' ∧ U' = L' + 1)) : U ≤ L' ∨ U' ≤ L := by
  rcases h with h | ⟨h, h1⟩
  · omega
  rcases h' with h' | ⟨h', h1'⟩
  · omega
  have := hne L h
  rw [h'] at this
  have : L ≠ L' := fun e => this (by rw [e])
  omega
theorem R_made3 {α : Type} {d : Kd α} {e last base : Nat} {Wc w1 : World} {v1 v2 v3 : Value} {x1 x2 x3 : List α} (h1 : d.R e w1 Wc.heap.size (fun k => some k ≠ v2.ownBlock ∧ some k ≠ v3.ownBlock) v1 x1) (h2 : d.R e w1 Wc.heap.size (fun k => some k ≠ v1.ownBlock ∧ some k ≠ v3.ownBlock) v2 x2) (h3 : d.R e w1 Wc.heap.size (fun k => some k ≠ v1.ownBlock ∧ some k ≠ v2.ownBlock) v3 x3)
    (hE : d.E = []) (hs : last ≤ Wc.heap.size) (hb : Below Wc.heap.size Wc w1) (hbase : base ≤ Wc.heap.size) :
    ∃ L1 U1 L2 U2 L3 U3 LG UG : Nat, Aside0 (last ≤ LG ∧ LG ≤ L1 ∧ L1 ≤ U1 ∧ U1 ≤ UG ∧ LG ≤ L2 ∧ L2 ≤ U2 ∧ U2 ≤ UG ∧ LG ≤ L3 ∧ L3 ≤ U3 ∧ U3 ≤ UG) ∧ Aside0 ((U1 ≤ L2 ∨ U2 ≤ L1) ∧ (U1 ≤ L3 ∨ U3 ≤ L1) ∧ (U2 ≤ L3 ∨ U3 ≤ L2)) ∧ Aside0 (UG ≤ w1.heap.size) ∧
      Aside0 (d.R e w1 base (fun x => L1 ≤ x ∧ x < U1) v1 x1) ∧ Aside0 (d.R e w1 base (fun x => L2 ≤ x ∧ x < U2) v2 x2) ∧ Aside0 (d.R e w1 base (fun x => L3 ≤ x ∧ x < U3) v3 x3) := by
  obtain ⟨L1, U1, ⟨a1, b1, c1⟩, r1, q1⟩ := R_box h1 hE hb.size
  obtain ⟨L2, U2, ⟨a2, b2, c2⟩, r2, q2⟩ := R_box h2 hE hb.size
  obtain ⟨L3, U3, ⟨a3, b3, c3⟩, r3, q3⟩ := R_box h3 hE hb.size
  exact ⟨L1, U1, L2, U2, L3, U3, Wc.heap.size, w1.heap.size, ⟨hs, a1, b1, c1, a2, b2, c2, a3, b3, c3⟩, ⟨box_apart (fun k hk => (h1.1 k hk).1) a1 a2 q1 q2, box_apart (fun k hk => (h1.1 k hk).2) a1 a3 q1 q3, box_apart (fun k hk => (h2.1 k hk).2) a2 a3 q2 q3⟩, ⟨Nat.le_refl _⟩,
    ⟨Kd.R_lower r1 hbase⟩, ⟨Kd.R_lower r2 hbase⟩, ⟨Kd.R_lower r3 hbase⟩⟩
/-- A row that was written into lies where it lay. -/
theorem R_same {α : Type} {d : Kd α} {e base base' : Nat} {W W' : World} {ok ok' : Nat → Prop} {v : Value} {xs ys : List α} (h : Aside0 (d.R e W base ok v xs)) (hE : d.E = []) (hy : d.R e W' base' ok' v ys) : Aside0 (d.R e W' base' ok v ys) :=
  ⟨Kd.R_mono (Kd.R_tight hE hy) (fun k hk => h.out.1 k hk.symm)⟩
/-- Moves: behind a call that makes; behind one that writes between other bounds. -/
theorem S_b {α : Type} {d : Kd α} {e base : Nat} {W w1 : World} {ok : Nat → Prop} {v : Value} {xs : List α} (h : Aside0 (Kd.S d e W base ok v xs)) (hb : Below W.heap.size W w1) : Aside0 (Kd.S d e w1 base ok v xs) := ⟨Kd.S_below h.out hb⟩
theorem R_b {α : Type} {d : Kd α} {e base : Nat} {W w1 : World} {ok : Nat → Prop} {v : Value} {xs : List α} (h : Aside0 (d.R e W base ok v xs)) (hb : Below W.heap.size W w1) : Aside0 (d.R e w1 base ok v xs) := ⟨Kd.R_below h.out hb⟩
theorem B_b {W w1 : World} {g : Nat} {o : Obj} (h : Aside0 (W.heap[g]? = some o)) (hb : Below W.heap.size W w1) : Aside0 (w1.heap[g]? = some o) := ⟨blk_below h.out hb⟩
theorem Z_b {W w1 : World} {n : Nat} (h : Aside0 (n ≤ W.heap.size)) (hb : Below W.heap.size W w1) : Aside0 (n ≤ w1.heap.size) := ⟨Nat.le_trans h.out hb.size⟩
theorem H_b {w W w1 : World} (h : Aside0 (Below w.heap.size w W)) (hb : Below W.heap.size W w1) : Aside0 (Below w.heap.size w w1) := ⟨below_step h.out hb⟩
theorem S_k {α : Type} {d : Kd α} {e base : Nat} {W w1 : World} {ok S : Nat → Prop} {v : Value} {xs : List α} (h : Aside0 (Kd.S d e W base ok v xs)) (hk : Kept W w1 S) (hne : ∀ k, ok k → ¬ S k) : Aside0 (Kd.S d e w1 base ok v xs) := ⟨Kd.S_kept h.out hk hne⟩
theorem R_k {α : Type} {d : Kd α} {e base : Nat} {W w1 : World} {ok S : Nat → Prop} {v : Value} {xs : List α} (h : Aside0 (d.R e W base ok v xs)) (hk : Kept W w1 S) (hne : ∀ k, ok k → ¬ S k) : Aside0 (d.R e w1 base ok v xs) := ⟨Kd.R_kept h.out hk hne⟩
theorem B_k {W w1 : World} {S : Nat → Prop} {g : Nat} {o : Obj} (h : Aside0 (W.heap[g]? = some o)) (hk : Kept W w1 S) (hne : ¬ S g) : Aside0 (w1.heap[g]? = some o) := ⟨blk_kept h.out hk hne⟩
theorem Z_k {W w1 : World} {S : Nat → Prop} {n : Nat} (h : Aside0 (n ≤ W.heap.size)) (hk : Kept W w1 S) : Aside0 (n ≤ w1.heap.size) := ⟨Nat.le_trans h.out hk.1⟩
theorem kept_cell {W W1 : World} {g : Nat} (h : Kept W W1 (fun x => x = g)) (j : Nat) (u : Value) : Kept W (W1.setCell ⟨g, j, none⟩ u) (fun x => x = g) := Kept.setCell (p := ⟨g, j, none⟩) h (Or.inl rfl) u
end Go.Proofs.YtlmhemcpkmjkiaaTree
