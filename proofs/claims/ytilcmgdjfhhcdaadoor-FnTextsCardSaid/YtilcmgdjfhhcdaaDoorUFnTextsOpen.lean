/- How arguments that read as data are laid open for the printed walks: slices of structs, structs in structs, trees. Conditions: none. -/
import Derived.Test.YtilcmgdjfhhcdaaDoorTFnTextsWords
import Derived.ChangeArms
import Derived.Deep.Slices
import Derived.ProofKit
namespace Go.Proofs.YtilcmgdjfhhcdaaDoorOpen
open Go.Proofs.YtilcmgdjfhhcdaaDoorW.PrintWords Go.Deep

/-- Whatever reads at type t with at most n of fuel is of kind d, and well formed. -/
def OpensF {α : Type} (n : Nat) (P : Program) (t : TypeId) (d : Kd α) (wf : α → Prop) : Prop :=
  ∀ (fuel : Nat), fuel ≤ n → ∀ (H : Type) (enc : TypeId × Value → H) (w : World) (base : Nat) (spare : Nat → Bool) (held : Bool) (cs : List Value) (x : DataW H × List MemPlace),
    DataW.trod enc P w base spare held fuel t cs = some x → ∃ y : α, d.K w y cs ∧ wf y
/-- So at any fuel. -/
def Opens {α : Type} (P : Program) (t : TypeId) (d : Kd α) (wf : α → Prop) : Prop := ∀ n, OpensF n P t d wf

theorem OpensF.le {α : Type} {n m : Nat} {P : Program} {t : TypeId} {d : Kd α} {wf : α → Prop} (h : OpensF n P t d wf) (hm : m ≤ n) : OpensF m P t d wf :=
  fun fuel hf => h fuel (Nat.le_trans hf hm)

theorem opens_int {P : Program} {t : TypeId} {k : IntKind} (hu : P.underlying t = some (.int k)) : Opens P t (Kd.int k) (fun n => (Lit.int k n).wf = true) := by
  intro n fuel _ H enc w base spare held cs x h
  obtain ⟨a, rfl, _, hw⟩ := DataW.trod_int hu h
  exact ⟨a, rfl, hw⟩
theorem opens_bool {P : Program} {t : TypeId} (hu : P.underlying t = some .bool) : Opens P t Kd.bool (fun _ => True) := by
  intro n fuel _ H enc w base spare held cs x h
  obtain ⟨a, rfl, _⟩ := DataW.trod_bool hu h
  exact ⟨a, rfl, trivial⟩
theorem opens_string {P : Program} {t : TypeId} (hu : P.underlying t = some .string) : Opens P t Kd.string (fun s => s.size ≤ maxLen) := by
  intro n fuel _ H enc w base spare held cs x h
  obtain ⟨a, rfl, _, hw⟩ := DataW.trod_string hu h
  exact ⟨a, rfl, hw⟩

theorem list_of {α : Type} {p : Nat → α → Prop} : ∀ n, (∀ i, i < n → ∃ y, p i y) → ∃ xs : List α, xs.length = n ∧ ∀ i y, xs[i]? = some y → p i y
  | 0, _ => ⟨[], rfl, fun i y h => by simp at h⟩
  | n + 1, h => by
    obtain ⟨xs, hl, hx⟩ := list_of n (fun i hi => h i (by omega))
    obtain ⟨y, hy⟩ := h n (by omega)
    refine ⟨xs ++ [y], by simp [hl], fun i z hz => ?_⟩
    rcases Nat.lt_or_ge i xs.length with hi | hi
    · rw [List.getElem?_append_left hi] at hz
      exact hx i z hz
    · rw [List.getElem?_append_right hi] at hz
      have : i - xs.length = 0 := by
        rcases Nat.eq_zero_or_pos (i - xs.length) with h0 | h0
        · exact h0
        · rw [List.getElem?_eq_none (by simp; omega)] at hz
          cases hz
      rw [this] at hz
      have hi' : i = n := by omega
      subst hi'
      simp at hz
      rw [← hz]
      exact hy

theorem cells_get {w : World} {base n : Nat} {a : Addr} {c : List Value} (h : w.cells? base a n = some c) : ∀ j u, c[j]? = some u → w.cell? (a.add j) = some u := by
  intro j u hj
  unfold World.cells? at h
  split at h
  · have hl : c.length = n := by simpa using mapM_some_length h
    have hjn : j < n := by
      rcases Nat.lt_or_ge j n with h1 | h1
      · exact h1
      · rw [List.getElem?_eq_none (by omega)] at hj
        cases hj
    have := mapM_some_get h j j (by simp [hjn])
    rw [this]
    exact hj
  · cases h

theorem opens_slice {α : Type} {n : Nat} {P : Program} {t e : TypeId} {d : Kd α} {wf : α → Prop} (hs : P.underlying t = some (.slice e)) (hc : P.cellsOf e = d.sz) (h : OpensF n P e d wf) :
    OpensF (n + 1) P t (Kd.slice e d) (fun xs => xs.length ≤ maxLen ∧ ∀ x ∈ xs, wf x) := by
  intro fuel hf H enc w base spare held cs x ht
  rcases DataW.trod_slice hs ht with ⟨rfl, _⟩ | ⟨a, len, cap, elems, rest, m, rfl, rfl, _, hb, hl, hm, hlen, hel, _⟩
  · exact ⟨[], ⟨none, 0, rfl, Nat.le_refl _, Kd.C_nil d w⟩, Nat.zero_le _, fun x hx => by cases hx⟩
  · have key : ∀ i, i < len → ∃ y : α, (∃ c : List Value, c.length = d.sz ∧ d.K w y c ∧ ∀ j u, c[j]? = some u → w.cell? (a.add (i * d.sz + j)) = some u) ∧ wf y := by
      intro i hi
      have h1 := hel i hi
      rw [List.getElem?_eq_getElem (by omega)] at h1
      obtain ⟨c, hc1, hc2⟩ := Option.bind_eq_some_iff.1 h1
      obtain ⟨y, hy, hw⟩ := h m (by omega) H enc w base spare held c _ hc2
      refine ⟨y, ⟨c, d.K_len hy, hy, fun j u hj => ?_⟩, hw⟩
      rw [hc] at hc1
      rw [← Go.Deep.add_add]
      exact cells_get hc1 j u hj
    obtain ⟨xs, hxl, hx⟩ := list_of len key
    have hmx : len ≤ 9223372036854775807 := by
      have : len ≤ maxLen := Nat.le_trans hl hm
      unfold maxLen at this
      exact this
    refine ⟨xs, ⟨some a, cap, by rw [hxl], by rw [hxl]; exact hl, ⟨rfl, by rw [hxl]; exact hmx, fun _ => ⟨a, rfl, fun j p hj => (hx j p hj).1⟩⟩⟩, by rw [hxl]; exact Nat.le_trans hl hm, fun x hxm => ?_⟩
    obtain ⟨j, hj⟩ := List.getElem?_of_mem hxm
    exact (hx j x hj).2

theorem Opens.slice {α : Type} {P : Program} {t e : TypeId} {d : Kd α} {wf : α → Prop} (hs : P.underlying t = some (.slice e)) (hc : P.cellsOf e = d.sz) (h : Opens P e d wf) :
    Opens P t (Kd.slice e d) (fun xs => xs.length ≤ maxLen ∧ ∀ x ∈ xs, wf x) := fun n => OpensF.le (opens_slice hs hc (h n)) (Nat.le_succ n)

/-- The fields from one on, in line from off on. -/
def FO {α : Type} (n : Nat) (P : Program) (fs : List Field) (off : Nat) (d : Kd α) (wf : α → Prop) : Prop :=
  ∀ m, m ≤ n → ∀ (H : Type) (enc : TypeId × Value → H) (w : World) (base : Nat) (spare : Nat → Bool) (held : Bool) (full : List Value),
    (∀ f ∈ fs, ∃ y, DataW.trod enc P w base spare held m f.type ((full.drop f.offset).take (P.cellsOf f.type)) = some y) → ∃ x : α, d.K w x ((full.drop off).take d.sz) ∧ wf x
theorem FO_one {α : Type} {n : Nat} {P : Program} {f : Field} {off : Nat} {d : Kd α} {wf : α → Prop} (ho : f.offset = off) (hc : P.cellsOf f.type = d.sz) (h : OpensF n P f.type d wf) : FO n P [f] off d wf := by
  intro m hm H enc w base spare held full hf
  obtain ⟨y, hy⟩ := hf f (by simp)
  rw [ho, hc] at hy
  exact h m hm H enc w base spare held _ _ hy
theorem FO_cons {α β : Type} {n : Nat} {P : Program} {f : Field} {fs : List Field} {off : Nat} {a : Kd α} {b : Kd β} {wa : α → Prop} {wb : β → Prop} (ho : f.offset = off) (hc : P.cellsOf f.type = a.sz) (h : OpensF n P f.type a wa)
    (hs : FO n P fs (off + a.sz) b wb) : FO n P (f :: fs) off (Kd.pair a b) (fun x => wa x.1 ∧ wb x.2) := by
  intro m hm H enc w base spare held full hf
  obtain ⟨y, hy⟩ := hf f (by simp)
  rw [ho, hc] at hy
  obtain ⟨x, hx, wx⟩ := h m hm H enc w base spare held _ _ hy
  obtain ⟨z, hz, wz⟩ := hs m hm H enc w base spare held full (fun g hg => hf g (by simp [hg]))
  refine ⟨(x, z), ⟨_, _, ?_, hx, hz⟩, wx, wz⟩
  show (full.drop off).take (a.sz + b.sz) = _
  rw [List.take_add, List.drop_drop]
theorem opens_struct {α : Type} {n : Nat} {P : Program} {t : TypeId} {fs : Array Field} {d : Kd α} {wf : α → Prop} (hu : P.underlying t = some (.struct fs)) (hc : P.cellsOf t = d.sz) (h : FO n P fs.toList 0 d wf) : OpensF (n + 1) P t d wf := by
  intro fuel hf H enc w base spare held cs x ht
  obtain ⟨xs, m, rfl, _, hl, hlen, hq⟩ := DataW.trod_struct hu ht
  obtain ⟨y, hy, wy⟩ := h m (by omega) H enc w base spare held cs (fun f hfm => by
    obtain ⟨i, hi⟩ := List.getElem?_of_mem hfm
    have h1 := hq i f (by simpa using hi)
    have hil : i < xs.length := by
      have := (List.getElem?_eq_some_iff.1 hi).1
      rw [hlen]
      simpa using this
    rw [List.getElem?_eq_getElem hil] at h1
    exact ⟨_, h1⟩)
  refine ⟨y, ?_, wy⟩
  rw [List.drop_zero, List.take_of_length_le (by rw [hl, hc]; exact Nat.le_refl _)] at hy
  exact hy
theorem opens_iso {α β : Type} {n : Nat} {P : Program} {t : TypeId} {d : Kd α} {wf : α → Prop} {f : β → α} (g : α → β) (hg : ∀ y, f (g y) = y) (h : OpensF n P t d wf) : OpensF n P t (Kd.iso d f) (fun x => wf (f x)) := by
  intro fuel hf H enc w base spare held cs x ht
  obtain ⟨y, hy, wy⟩ := h fuel hf H enc w base spare held cs x ht
  refine ⟨g y, ?_, ?_⟩
  · show d.K w (f (g y)) cs
    rw [hg]
    exact hy
  · show wf (f (g y))
    rw [hg]
    exact wy
theorem OpensF.weak {α : Type} {n : Nat} {P : Program} {t : TypeId} {d : Kd α} {wf wf' : α → Prop} (h : OpensF n P t d wf) (hw : ∀ x, wf x → wf' x) : OpensF n P t d wf' := by
  intro fuel hf H enc w base spare held cs x ht
  obtain ⟨y, hy, wy⟩ := h fuel hf H enc w base spare held cs x ht
  exact ⟨y, hy, hw y wy⟩

/-- An argument that reads: its value's cells are those of something of kind d. -/
theorem opened {α : Type} {P : Program} {t : TypeId} {d : Kd α} {wf : α → Prop} (ho : Opens P t d wf) {H : Type} {enc : TypeId × Value → H} {w : World} {base : Nat} {spare : Nat → Bool} {held : Bool} {v : Value} {x : DataW H} {p : List MemPlace}
    (h : DataW.Trod enc P w base spare held t v x p) : ∃ y : α, d.K w y v.cells.toList ∧ wf y := by
  obtain ⟨fuel, hf⟩ := h
  exact ho fuel fuel (Nat.le_refl _) H enc w base spare held _ _ hf
theorem cells_agg (cs : Array Value) : (Value.agg cs).cells = cs := by simp [Value.cells]
theorem opened_slice {α : Type} {P : Program} {t e : TypeId} {d : Kd α} {wf : List α → Prop} (ho : Opens P t (Kd.slice e d) wf) {H : Type} {enc : TypeId × Value → H} {w : World} {base : Nat} {spare : Nat → Bool} {held : Bool} {a : Option Addr} {len cap : Nat} {x : DataW H} {p : List MemPlace}
    (h : DataW.Trod enc P w base spare held t (.slice a len cap) x p) : ∃ xs : List α, len = xs.length ∧ xs.length ≤ cap ∧ d.C w a xs.length xs ∧ wf xs := by
  obtain ⟨xs, ⟨A, c, he, hl, hC⟩, hw⟩ := opened ho h
  simp [Value.cells] at he
  obtain ⟨rfl, rfl, rfl⟩ := he
  exact ⟨xs, rfl, hl, hC, hw⟩
end Go.Proofs.YtilcmgdjfhhcdaaDoorOpen
