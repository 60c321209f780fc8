/- Plain lemmas on loops that count up, for the pure statements of this seat: no Go, no memory. Conditions: none. -/
import Derived.Test.YtilcmgdjfhhcdaaDoorTFnTextsWords
namespace Go.Proofs.YtilcmgdjfhhcdaaDoorLib
open Go.RowKit Go.Proofs.YtilcmgdjfhhcdaaDoorW.PrintWords

theorem wrap_in {x : Int} (h0 : -9223372036854775808 ≤ x) (h1 : x ≤ 9223372036854775807) : wrap64 x = x := by
  unfold wrap64
  omega
theorem wrap_succ {i n : Nat} (h : i < n) (hn : n ≤ 1099511627776) : wrap64 ((i : Int) + 1) = ((i + 1 : Nat) : Int) := by
  unfold wrap64
  omega
theorem rd_nat (l : List Int) (i : Nat) : rd l (i : Int) = l.getD i 0 := by
  unfold rd
  rw [Int.toNat_natCast]
theorem getD_get {α : Type} (l : List α) (i : Nat) (d : α) (h : i < l.length) : l.getD i d = l[i] := by
  rw [List.getD_eq_getElem?_getD, List.getElem?_eq_getElem h]
  rfl
theorem none_isSome {α : Type} (l : List α) (i : Nat) (h : l.length ≤ i) (d : α) : l.getD i d = d := by
  rw [List.getD_eq_getElem?_getD, List.getElem?_eq_none h]
  rfl

/-- A loop whose states are known, up to where it ends. B: the rounds that what is called inside wants. -/
theorem run {σ ρ : Type} (F : Nat → σ → Int → Option ρ) (st : Nat → σ) (e B : Nat) (r : ρ)
    (hstep : ∀ k i, B ≤ k → i < e → F (k + 1) (st i) (i : Int) = F k (st (i + 1)) ((i + 1 : Nat) : Int))
    (hend : ∀ k, B ≤ k → F (k + 1) (st e) (e : Int) = some r) : ∀ k, e + B < k → F k (st 0) 0 = some r := by
  have key : ∀ d i k, i + d = e → d + B < k → F k (st i) (i : Int) = some r := by
    intro d
    induction d with
    | zero =>
      intro i k hi hk
      obtain ⟨k, rfl⟩ : ∃ m, k = m + 1 := ⟨k - 1, by omega⟩
      obtain rfl : i = e := by omega
      exact hend k (by omega)
    | succ d ih =>
      intro i k hi hk
      obtain ⟨k, rfl⟩ : ∃ m, k = m + 1 := ⟨k - 1, by omega⟩
      rw [hstep k i (by omega) (by omega)]
      exact ih (i + 1) k (by omega) (by omega)
  intro k hk
  exact key e 0 k (by omega) hk
/-- The first index below n at which p fails, or n. -/
theorem first_bad (p : Nat → Bool) (n : Nat) : ∃ e, e ≤ n ∧ (∀ i, i < e → p i = true) ∧ (e < n → p e = false) ∧ (e = n ↔ (List.range n).all p = true) := by
  induction n with
  | zero => exact ⟨0, Nat.le_refl _, fun i hi => absurd hi (Nat.not_lt_zero _), fun h => absurd h (Nat.lt_irrefl _), by simp⟩
  | succ n ih =>
    obtain ⟨e, h1, h2, h3, h4⟩ := ih
    rcases Nat.lt_or_ge e n with hlt | hge
    · refine ⟨e, by omega, h2, fun _ => h3 hlt, ⟨fun h => by omega, fun h => ?_⟩⟩
      rw [List.all_eq_true] at h
      have := h e (by simp; omega)
      rw [h3 hlt] at this
      cases this
    · obtain rfl : e = n := by omega
      cases hp : p e with
      | false =>
        refine ⟨e, by omega, h2, fun _ => hp, ⟨fun h => by omega, fun h => ?_⟩⟩
        rw [List.all_eq_true] at h
        have := h e (by simp)
        rw [hp] at this
        cases this
      | true =>
        refine ⟨e + 1, by omega, fun i hi => ?_, fun h => absurd h (by omega), ⟨fun _ => ?_, fun _ => rfl⟩⟩
        · rcases Nat.lt_succ_iff_lt_or_eq.1 hi with hlt | rfl
          · exact h2 i hlt
          · exact hp
        · rw [List.range_succ, List.all_append, h4.1 rfl]
          simp [hp]
/-- A loop that ends at the first failure. -/
theorem allLoop {ρ : Type} (F : Nat → Int → Option ρ) (n B : Nat) (p : Nat → Bool) (bad fin : ρ)
    (h1 : ∀ k i, B ≤ k → i < n → p i = true → F (k + 1) (i : Int) = F k ((i + 1 : Nat) : Int))
    (h2 : ∀ k i, B ≤ k → i < n → p i = false → F (k + 1) (i : Int) = some bad)
    (h3 : ∀ k, B ≤ k → F (k + 1) (n : Int) = some fin) : ∀ k, n + B < k → F k 0 = some (if (List.range n).all p = true then fin else bad) := by
  obtain ⟨e, he, g1, g2, g3⟩ := first_bad p n
  intro k hk
  rcases Nat.lt_or_ge e n with hlt | hge
  · rw [if_neg (fun h => by have := g3.2 h; omega)]
    exact run (fun k (_ : Unit) i => F k i) (fun _ => ()) e B bad (fun k i hB hi => h1 k i hB (by omega) (g1 i hi)) (fun k hB => h2 k e hB hlt (g2 hlt)) k (by omega)
  · obtain rfl : e = n := by omega
    rw [if_pos (g3.1 rfl)]
    exact run (fun k (_ : Unit) i => F k i) (fun _ => ()) e B fin (fun k i hB hi => h1 k i hB hi (g1 i hi)) h3 k (by omega)
/-- A loop that ends at the first success, with something of its index. -/
theorem findLoop {ρ : Type} (F : Nat → Int → Option ρ) (n B : Nat) (p : Nat → Bool) (hit : Nat → ρ) (fin : ρ)
    (h1 : ∀ k i, B ≤ k → i < n → p i = false → F (k + 1) (i : Int) = F k ((i + 1 : Nat) : Int))
    (h2 : ∀ k i, B ≤ k → i < n → p i = true → F (k + 1) (i : Int) = some (hit i))
    (h3 : ∀ k, B ≤ k → F (k + 1) (n : Int) = some fin) : ∀ k, n + B < k → F k 0 = some (((List.range n).find? p).elim fin hit) := by
  obtain ⟨e, he, g1, g2, g3⟩ := first_bad (fun i => !p i) n
  intro k hk
  rcases Nat.lt_or_ge e n with hlt | hge
  · have hpe : p e = true := by simpa using g2 hlt
    have hf : (List.range n).find? p = some e := by
      rw [List.find?_range_eq_some]
      exact ⟨hpe, by simpa using hlt, fun j hj => by simpa using g1 j hj⟩
    rw [hf]
    exact run (fun k (_ : Unit) i => F k i) (fun _ => ()) e B (hit e) (fun k i hB hi => h1 k i hB (by omega) (by simpa using g1 i hi)) (fun k hB => h2 k e hB hlt hpe) k (by omega)
  · obtain rfl : e = n := by omega
    have hf : (List.range e).find? p = none := by
      rw [List.find?_eq_none]
      intro x hx
      have := g1 x (by simpa using hx)
      simpa using this
    rw [hf]
    exact run (fun k (_ : Unit) i => F k i) (fun _ => ()) e B fin (fun k i hB hi => h1 k i hB hi (by simpa using g1 i hi)) h3 k (by omega)

theorem ite_and (b c : Bool) : (if b = true then some c else some false) = some (b && c) := by cases b <;> rfl
theorem wrap_pred {i n : Nat} (h0 : 0 < i) (h : i < n) (hn : n ≤ 1099511627776) : wrap64 ((i : Int) - 1) = ((i - 1 : Nat) : Int) := by
  unfold wrap64
  omega
/-- What is left of a size behind a list of sizes; -1 as soon as there are more. -/
theorem szLoop {α : Type} (F : Nat → Int → Int → Option Int) (l : List α) (z : α) (w : α → Nat) (B : Nat) (M : Int)
    (h1 : ∀ k i a, B ≤ k → i < l.length → 0 ≤ a → a ≤ M → F (k + 1) a (i : Int) = if (w (l.getD i z) : Int) ≤ a then F k (a - (w (l.getD i z) : Int)) ((i + 1 : Nat) : Int) else some (-1))
    (h2 : ∀ k a, B ≤ k → F (k + 1) a (l.length : Int) = some a) : ∀ k a, l.length + B < k → 0 ≤ a → a ≤ M → F k a 0 = some (if (((l.map w).sum : Nat) : Int) ≤ a then a - (((l.map w).sum : Nat) : Int) else -1) := by
  have key : ∀ d i k a, i + d = l.length → d + B < k → 0 ≤ a → a ≤ M → F k a (i : Int) = some (if ((((l.drop i).map w).sum : Nat) : Int) ≤ a then a - ((((l.drop i).map w).sum : Nat) : Int) else -1) := by
    intro d
    induction d with
    | zero =>
      intro i k a hi hk h0 hM
      obtain ⟨k, rfl⟩ : ∃ m, k = m + 1 := ⟨k - 1, by omega⟩
      obtain rfl : i = l.length := by omega
      rw [h2 k a (by omega), List.drop_length]
      simp [h0]
    | succ d ih =>
      intro i k a hi hk h0 hM
      obtain ⟨k, rfl⟩ : ∃ m, k = m + 1 := ⟨k - 1, by omega⟩
      have hil : i < l.length := by omega
      rw [h1 k i a (by omega) hil h0 hM, List.drop_eq_getElem_cons hil, List.map_cons, List.sum_cons, ← getD_get l i z hil]
      by_cases hw : (w (l.getD i z) : Int) ≤ a
      · rw [if_pos hw, ih (i + 1) k _ (by omega) (by omega) (by omega) (by omega)]
        congr 1
        split <;> split <;> omega
      · rw [if_neg hw, if_neg (by omega)]
  intro k a hk h0 hM
  have := key l.length 0 k a (by omega) hk h0 hM
  simpa using this
theorem le_sum {α : Type} (w : α → Nat) (l : List α) (x : α) (h : x ∈ l) : w x ≤ (l.map w).sum := by
  induction l with
  | nil => cases h
  | cons y r ih =>
    rw [List.map_cons, List.sum_cons]
    rcases List.mem_cons.1 h with rfl | h
    · omega
    · have := ih h; omega
theorem getD_mem {α : Type} (l : List α) (i : Nat) (z : α) (h : i < l.length) : l.getD i z ∈ l := by
  rw [getD_get l i z h]
  exact List.getElem_mem h

/-- What stands in line behind i stores of g. -/
def put {α : Type} (g : Nat → α) (l : List α) (i : Nat) : List α := (List.range i).map g ++ l.drop i
theorem put_zero {α : Type} (g : Nat → α) (l : List α) : put g l 0 = l := by simp [put]
theorem put_all {α : Type} (g : Nat → α) (l : List α) {n : Nat} (h : l.length = n) : put g l n = (List.range n).map g := by
  unfold put
  rw [List.drop_of_length_le (by omega), List.append_nil]
theorem put_length {α : Type} (g : Nat → α) (l : List α) (i : Nat) (h : i ≤ l.length) : (put g l i).length = l.length := by
  unfold put
  rw [List.length_append, List.length_map, List.length_range, List.length_drop]
  omega
theorem put_set {α : Type} (g : Nat → α) (l : List α) (i : Nat) (h : i < l.length) : (put g l i).set i (g i) = put g l (i + 1) := by
  unfold put
  rw [List.set_append_right _ _ (by simp), List.length_map, List.length_range, Nat.sub_self, List.drop_eq_getElem_cons h, List.set_cons_zero, List.range_succ, List.map_append, List.append_assoc]
  rfl
theorem put_get {α : Type} (g : Nat → α) (l : List α) (i : Nat) (h : i < l.length) (d : α) : (put g l i).getD i d = l[i] := by
  unfold put
  rw [List.getD_eq_getElem?_getD, List.getElem?_append_right (by simp), List.length_map, List.length_range, Nat.sub_self, List.drop_eq_getElem_cons h]
  rfl
theorem map_range_getD {α β : Type} (l : List α) (d : α) (f : α → β) : (List.range l.length).map (fun i => f (l.getD i d)) = l.map f := by
  apply List.ext_getElem
  · simp
  · intro i h1 h2
    simp at h1 h2 ⊢
    rw [List.getElem?_eq_getElem h1]
    rfl
theorem map_range_getD' {α : Type} (l : List α) (d : α) : (List.range l.length).map (fun i => l.getD i d) = l := by
  have := map_range_getD l d (fun x => x)
  simpa using this
theorem getD_map_range {α : Type} (g : Nat → α) (n i : Nat) (h : i < n) (d : α) : ((List.range n).map g).getD i d = g i := by
  rw [List.getD_eq_getElem?_getD, List.getElem?_map, List.getElem?_range h]
  rfl
theorem getD_set_self {α : Type} (l : List α) (i : Nat) (v d : α) (h : i < l.length) : (l.set i v).getD i d = v := by
  rw [List.getD_eq_getElem?_getD, List.getElem?_set_self h]
  rfl
theorem flatten_take {α : Type} (L : List (List α)) (i : Nat) (h : i < L.length) : (L.take (i + 1)).flatten = (L.take i).flatten ++ L.getD i [] := by
  rw [List.take_succ_eq_append_getElem h, List.flatten_append, getD_get L i [] h]
  simp
theorem flatten_take_le {α : Type} (L : List (List α)) (i : Nat) : (L.take i).flatten.length ≤ L.flatten.length := by
  have h : L.flatten = (L.take i).flatten ++ (L.drop i).flatten := by rw [← List.flatten_append, List.take_append_drop]
  rw [h, List.length_append]
  omega
theorem foldl_take {α β : Type} (f : β → α → β) (b : β) (l : List α) (i : Nat) (h : i < l.length) (d : α) : (l.take (i + 1)).foldl f b = f ((l.take i).foldl f b) (l.getD i d) := by
  rw [List.take_succ_eq_append_getElem h, List.foldl_append, getD_get l i d h]
  rfl
theorem all_range_getD {α : Type} (l : List α) (d : α) (p : α → Bool) : (List.range l.length).all (fun i => p (l.getD i d)) = l.all p := by
  rw [← map_range_getD' l d, List.all_map, List.length_map, List.length_range]
  rw [map_range_getD' l d]
  rfl
end Go.Proofs.YtilcmgdjfhhcdaaDoorLib
