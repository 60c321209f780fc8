/- FnTexts: conditions are parsed from their text, and from nothing else: for all bytes. Conditions: when the call begins the package variables that the row lists read as their initialisers lay them. -/
import Derived.Test.YtilcmgdjfhhcdaaDoorUFnTextsLib
import Derived.Test.YtilcmgdjfhhcdaaDoorUFnTextsx14
namespace Go.Proofs.YtilcmgdjfhhcdaaDoor.Pure
open Go.RowKit Go.Proofs.YtilcmgdjfhhcdaaDoor.XFnTexts Go.Proofs.YtilcmgdjfhhcdaaDoorW.PrintWords
set_option linter.unusedVariables false
set_option linter.unusedSimpArgs false
open Go.Proofs.YtilcmgdjfhhcdaaDoorLib
/-! ### Trees: how many nodes -/
def treeSep : Unit := ()
mutual
def nodesB : S27 → Nat
  | ⟨_, _, _, l⟩ => 1 + nodesBS l
def nodesBS : List S27 → Nat
  | [] => 0
  | x :: l => nodesB x + nodesBS l
end
theorem nodesB_eq (x : S27) : nodesB x = 1 + nodesBS x.f3 := by cases x; rw [nodesB]
theorem nodesBS_sum (l : List S27) : nodesBS l = (l.map nodesB).sum := by
  induction l with
  | nil => rw [nodesBS]; rfl
  | cons x l ih => rw [nodesBS, ih]; rfl
theorem nodesBS_below (l : List S27) : nodesBS l = l.length + (l.map fun x => nodesBS x.f3).sum := by
  induction l with
  | nil => rw [nodesBS]; rfl
  | cons x l ih =>
    rw [nodesBS, ih, nodesB_eq, List.map_cons, List.sum_cons, List.length_cons]
    omega
theorem nodesB_lt (l : List S27) (x : S27) (h : x ∈ l) : nodesBS x.f3 + l.length ≤ nodesBS l := by
  have := le_sum (fun x : S27 => nodesBS x.f3) l x h
  rw [nodesBS_below l]
  omega
theorem rdCB (l : List S27) (i : Nat) : rd_T27 l (i : Int) = l.getD i z27 := by
  unfold rd_T27
  rw [Int.toNat_natCast]
/-! ### Copies -/
theorem eta2 (x : S27) : (⟨x.f0, x.f1, x.f2, x.f3⟩ : S27) = x := by cases x; rfl
theorem take_at (l : List S27) (i : Nat) (h : i < l.length) : l.take i ++ [l.getD i z27] = l.take (i + 1) := by
  rw [List.take_succ_eq_append_getElem h, getD_get l i _ h]
theorem copy1 (N : Nat) : ∀ (a b c : Int) (l : List S27) (k : Nat), nodesBS l ≤ N → N ≤ 1048577 → 4 * N + 6 < k → spec_l15Copy.f k a b c l = some (a, b, c, l) := by
  induction N using Nat.strongRecOn with
  | _ N ih =>
    intro a b c l k hN hN2 hk
    obtain ⟨k, rfl⟩ : ∃ m, k = m + 1 := ⟨k - 1, by omega⟩
    have hb := nodesBS_below l
    rw [spec_l15Copy.f]
    have h0 : ([] : List S27) = l.take 0 := by simp
    rw [h0]
    rcases Nat.eq_zero_or_pos l.length with hz | hz
    · obtain rfl : l = [] := List.eq_nil_of_length_eq_zero hz
      obtain ⟨k, rfl⟩ : ∃ m, k = m + 1 := ⟨k - 1, by omega⟩
      simp [spec_l15Copy.l0]
    refine run (fun k s i => spec_l15Copy.l0 k i a b c l a b c s) (fun i => l.take i) l.length (4 * (N - l.length) + 7) (a, b, c, l) ?_ ?_ k (by omega)
    · intro k i hk hi
      have hlt := nodesB_lt l _ (getD_mem l i z27 hi)
      simp only [spec_l15Copy.l0, rdCB]
      rw [if_pos (by omega), if_pos (by omega), ih (N - l.length) (by omega) _ _ _ _ k (by omega) (by omega) (by omega), Option.bind_some, if_pos (by rw [List.length_take]; omega), wrap_succ hi (by omega), eta2, take_at l i hi]
    · intro k _
      simp only [spec_l15Copy.l0]
      rw [if_neg (by omega), List.take_length]
open Classical in
noncomputable def sameC (x y : S27) : Bool := decide (x = y)
open Classical in
noncomputable def sameCS (l m : List S27) : Bool := decide (l = m)
open Classical in
theorem sameC_iff (x y : S27) : sameC x y = true ↔ x = y := by unfold sameC; exact decide_eq_true_iff
open Classical in
theorem sameCS_iff (l m : List S27) : sameCS l m = true ↔ l = m := by unfold sameCS; exact decide_eq_true_iff
theorem etaB (x : S27) : (⟨x.f0, x.f1, x.f2, x.f3⟩ : S27) = x := by cases x; rfl
theorem sameCS_all (l m : List S27) (h : l.length = m.length) : (if (List.range l.length).all (fun i => sameC (l.getD i z27) (m.getD i z27)) = true then true else false) = sameCS l m := by
  by_cases g : l = m
  · subst g
    rw [(sameCS_iff l l).2 rfl, if_pos]
    rw [List.all_eq_true]
    exact fun i _ => (sameC_iff _ _).2 rfl
  · rw [Bool.eq_false_iff.2 (fun e => g ((sameCS_iff l m).1 e)), if_neg]
    intro e
    rw [List.all_eq_true] at e
    refine g (List.ext_getElem h fun i h1 h2 => ?_)
    have := (sameC_iff _ _).1 (e i (List.mem_range.2 h1))
    rwa [getD_get l i _ h1, getD_get m i _ h2] at this
theorem sameC_of (a b c : Int) (l m : List S27) : sameC ⟨a, b, c, l⟩ ⟨a, b, c, m⟩ = sameCS l m := by
  by_cases g : l = m
  · subst g; rw [(sameCS_iff l l).2 rfl, (sameC_iff _ _).2 rfl]
  · rw [Bool.eq_false_iff.2 (fun e => g ((sameCS_iff l m).1 e)), Bool.eq_false_iff]
    intro e
    have := (sameC_iff _ _).1 e
    cases this
    exact g rfl
theorem sameC_no (x y : S27) (h : x ≠ y) : sameC x y = false := Bool.eq_false_iff.2 (fun e => h ((sameC_iff x y).1 e))
theorem equal2C (N : Nat) : ∀ (a b c : Int) (l : List S27) (a' b' c' : Int) (m : List S27) (k : Nat), nodesBS l ≤ N → N ≤ 1048576 → 4 * N + 8 < k → impl_EqualConds.f k a b c l a' b' c' m = some (sameC ⟨a, b, c, l⟩ ⟨a', b', c', m⟩) := by
  induction N using Nat.strongRecOn with
  | _ N ih =>
    intro a b c l a' b' c' m k hN hN2 hk
    obtain ⟨k, rfl⟩ : ∃ m, k = m + 1 + 1 := ⟨k - 2, by omega⟩
    have hb := nodesBS_below l
    rw [impl_EqualConds.f]
    by_cases ha : a = a'
    · by_cases hb' : b = b'
      · by_cases hc : c = c'
        · subst ha hb' hc
          rw [if_pos rfl, if_pos rfl, if_pos rfl, sameC_of, impl_Cond_24.f]
          by_cases hl : l.length = m.length
          · rw [if_pos (by omega)]
            rcases Nat.eq_zero_or_pos l.length with hz | hz
            · obtain rfl : l = [] := List.eq_nil_of_length_eq_zero hz
              obtain rfl : m = [] := List.eq_nil_of_length_eq_zero (by simpa using hl.symm)
              obtain ⟨k, rfl⟩ : ∃ m, k = m + 1 := ⟨k - 1, by omega⟩
              rw [impl_Cond_24.l0, if_neg (by simp), (sameCS_iff _ _).2 rfl]
              rfl
            rw [allLoop (fun k i => impl_Cond_24.l0 k m l (l.length : Int) i) l.length (4 * (N - l.length) + 9) (fun i => sameC (l.getD i z27) (m.getD i z27)) false true ?_ ?_ ?_ k (by omega), sameCS_all l m hl]
            · rfl
            · intro k i hk hi hp
              have hlt := nodesB_lt l _ (getD_mem l i z27 hi)
              rw [impl_Cond_24.l0, if_pos (by omega), if_pos (by omega), if_pos (by omega), if_pos (by omega), rdCB, rdCB, ih (N - l.length) (by omega) _ _ _ _ _ _ _ _ k (by omega) (by omega) (by omega), Option.bind_some, etaB, etaB, if_pos hp, wrap_succ hi (by omega)]
            · intro k i hk hi hp
              have hlt := nodesB_lt l _ (getD_mem l i z27 hi)
              rw [impl_Cond_24.l0, if_pos (by omega), if_pos (by omega), if_pos (by omega), if_pos (by omega), rdCB, rdCB, ih (N - l.length) (by omega) _ _ _ _ _ _ _ _ k (by omega) (by omega) (by omega), Option.bind_some, etaB, etaB, hp, if_neg (by simp)]
            · intro k _
              rw [impl_Cond_24.l0, if_neg (by omega)]
          · have hs : sameCS l m = false := Bool.eq_false_iff.2 (fun e => hl (by rw [(sameCS_iff l m).1 e]))
            rw [if_neg (by omega), hs]
            rfl
        · rw [if_pos ha, if_pos hb', if_neg hc, sameC_no _ _ (fun e => hc (by cases e; rfl))]
      · rw [if_pos ha, if_neg hb', sameC_no _ _ (fun e => hb' (by cases e; rfl))]
    · rw [if_neg ha, sameC_no _ _ (fun e => ha (by cases e; rfl))]
theorem size1 (N : Nat) : ∀ (a b c : Int) (l : List S27) (k : Nat), nodesBS l ≤ N → N ≤ 1048576 → 4 * N + 4 < k → spec_SizeOf.f k a b c l = some (1 + (nodesBS l : Int)) := by
  induction N using Nat.strongRecOn with
  | _ N ih =>
    intro a b c l k hN hN2 hk
    obtain ⟨k, rfl⟩ : ∃ m, k = m + 1 := ⟨k - 1, by omega⟩
    have hb := nodesBS_below l
    simp only [spec_SizeOf.f]
    rcases Nat.eq_zero_or_pos l.length with hz | hz
    · obtain rfl : l = [] := List.eq_nil_of_length_eq_zero hz
      obtain ⟨k, rfl⟩ : ∃ m, k = m + 1 := ⟨k - 1, by omega⟩
      simp [spec_SizeOf.l0, nodesBS]
    have h := run (fun k s i => spec_SizeOf.l0 k s i a b c l) (fun i => 1 + (((l.take i).map nodesB).sum : Int)) l.length (4 * (N - l.length) + 6) (1 + (nodesBS l : Int)) ?_ ?_ k (by omega)
    · simpa using h
    · intro k i hk hi
      have hm := getD_mem l i z27 hi
      have hlt := nodesB_lt l _ hm
      have hle : ((l.take i).map nodesB).sum + nodesB (l.getD i z27) = ((l.take (i + 1)).map nodesB).sum := by
        rw [List.take_succ_eq_append_getElem hi, List.map_append, List.sum_append, getD_get l i _ hi]
        simp
      have hle2 : ((l.take (i + 1)).map nodesB).sum ≤ nodesBS l := by
        rw [nodesBS_sum]
        have h3 : (l.map nodesB).sum = ((l.take (i + 1)).map nodesB).sum + ((l.drop (i + 1)).map nodesB).sum := by rw [← List.sum_append, ← List.map_append, List.take_append_drop]
        omega
      have hn := nodesB_eq (l.getD i z27)
      simp only [spec_SizeOf.l0, rdCB]
      rw [if_pos (by omega), if_pos (by omega), ih (N - l.length) (by omega) _ _ _ _ k (by omega) (by omega) (by omega), Option.bind_some, wrap_succ hi (by omega), wrap_in (by omega) (by omega)]
      congr 1
      omega
    · intro k _
      simp only [spec_SizeOf.l0]
      rw [if_neg (by omega), List.take_of_length_le (Nat.le_refl _), nodesBS_sum]
theorem size2 (N : Nat) : ∀ (a b c : Int) (l : List S27) (k : Nat), nodesBS l ≤ N → N ≤ 1048576 → 4 * N + 4 < k → impl_SizeOf.f k a b c l = some (1 + (nodesBS l : Int)) := by
  induction N using Nat.strongRecOn with
  | _ N ih =>
    intro a b c l k hN hN2 hk
    obtain ⟨k, rfl⟩ : ∃ m, k = m + 1 := ⟨k - 1, by omega⟩
    have hb := nodesBS_below l
    simp only [impl_SizeOf.f]
    rcases Nat.eq_zero_or_pos l.length with hz | hz
    · obtain rfl : l = [] := List.eq_nil_of_length_eq_zero hz
      obtain ⟨k, rfl⟩ : ∃ m, k = m + 1 := ⟨k - 1, by omega⟩
      simp [impl_SizeOf.l0, nodesBS]
    have h := run (fun k s i => impl_SizeOf.l0 k s l (l.length : Int) i) (fun i => 1 + (((l.take i).map nodesB).sum : Int)) l.length (4 * (N - l.length) + 6) (1 + (nodesBS l : Int)) ?_ ?_ k (by omega)
    · simpa using h
    · intro k i hk hi
      have hm := getD_mem l i z27 hi
      have hlt := nodesB_lt l _ hm
      have hle : ((l.take i).map nodesB).sum + nodesB (l.getD i z27) = ((l.take (i + 1)).map nodesB).sum := by
        rw [List.take_succ_eq_append_getElem hi, List.map_append, List.sum_append, getD_get l i _ hi]
        simp
      have hle2 : ((l.take (i + 1)).map nodesB).sum ≤ nodesBS l := by
        rw [nodesBS_sum]
        have h3 : (l.map nodesB).sum = ((l.take (i + 1)).map nodesB).sum + ((l.drop (i + 1)).map nodesB).sum := by rw [← List.sum_append, ← List.map_append, List.take_append_drop]
        omega
      have hn := nodesB_eq (l.getD i z27)
      simp only [impl_SizeOf.l0, rdCB]
      rw [if_pos (by omega), if_pos (by omega), if_pos (by omega), ih (N - l.length) (by omega) _ _ _ _ k (by omega) (by omega) (by omega), Option.bind_some, wrap_succ hi (by omega), wrap_in (by omega) (by omega)]
      congr 1
      omega
    · intro k _
      simp only [impl_SizeOf.l0]
      rw [if_neg (by omega), List.take_of_length_le (Nat.le_refl _), nodesBS_sum]
theorem in1 (x y z : Int) : spec_l1In.f x y z = some (decide (y ≤ x ∧ x ≤ z)) := by
  unfold spec_l1In.f
  by_cases h : x ≥ y
  · rw [if_pos h]; simp [show y ≤ x from h]
  · rw [if_neg h]; simp; omega
theorem in2 (x y z : Int) : impl_InRange.f x y z = some (decide (y ≤ x ∧ x ≤ z)) := by
  unfold impl_InRange.f
  by_cases h : y ≤ x
  · rw [if_pos h]; simp [h]
  · rw [if_neg h]; simp; omega
def arity (op : Int) : Int := if op = 7 then 1 else if op = 8 then 2 else if op = 9 then 2 else if 1 ≤ op ∧ op ≤ 6 then 0 else -1
def amax (op : Int) : Int := if op = 2 then 5 else if op = 4 then 3 else if op = 5 then 3 else if op = 6 then 10000 else 0
def bmax (op : Int) : Int := if 2 ≤ op ∧ op ≤ 5 then 10000 else 0
def nodeOk (op a b : Int) (n : Nat) : Bool := decide ((n : Int) = arity op) && (decide (0 ≤ a ∧ a ≤ amax op) && decide (0 ≤ b ∧ b ≤ bmax op))
theorem arity2 (op : Int) (k : Nat) : impl_ArityOf.f (k + 1) op = some (arity op) := by
  simp only [impl_ArityOf.f, impl_ArityOf.j0, in2, Option.bind_some]
  unfold arity
  by_cases h7 : op = 7
  · simp [h7]
  by_cases h8 : op = 8
  · simp [h8]
  by_cases h9 : op = 9
  · simp [h9]
  by_cases h : 1 ≤ op ∧ op ≤ 6
  · simp [h7, h8, h9, h]
  · simp [h7, h8, h9, h]
theorem arity1 (op : Int) (k : Nat) : spec_ArityOf.f (k + 1) op = some (arity op) := by
  simp only [spec_ArityOf.f, spec_ArityOf.j0]
  unfold arity
  by_cases h1 : op = 1
  · simp [h1]
  by_cases h2 : op = 2
  · simp [h2]
  by_cases h3 : op = 3
  · simp [h3]
  by_cases h4 : op = 4
  · simp [h4]
  by_cases h5 : op = 5
  · simp [h5]
  by_cases h6 : op = 6
  · simp [h6]
  have h : ¬ (1 ≤ op ∧ op ≤ 6) := by omega
  simp only [h1, h2, h3, h4, h5, h6, h, if_false, beq_iff_eq]
  split
  · rfl
  · split
    · rfl
    · split <;> rfl
theorem node2 (op a b : Int) (l : List S27) (k : Nat) : impl_isNode.f (k + 1 + 1 + 1) op a b l = some (nodeOk op a b l.length) := by
  simp only [impl_isNode.f, impl_isNode.j0, impl_isNode.j1, arity2, in2, Option.bind_some]
  unfold nodeOk amax bmax
  generalize arity op = z
  by_cases h2 : op = 2
  · subst h2; by_cases hz : (l.length : Int) = z <;> simp [hz] <;> (split <;> rename_i hp <;> simp [hp] <;> omega)
  by_cases h4 : op = 4
  · subst h4; by_cases hz : (l.length : Int) = z <;> simp [hz] <;> (split <;> rename_i hp <;> simp [hp] <;> omega)
  by_cases h5 : op = 5
  · subst h5; by_cases hz : (l.length : Int) = z <;> simp [hz] <;> (split <;> rename_i hp <;> simp [hp] <;> omega)
  by_cases h6 : op = 6
  · subst h6; by_cases hz : (l.length : Int) = z <;> simp [hz] <;> (split <;> rename_i hp <;> simp [hp] <;> omega)
  by_cases h : 2 ≤ op ∧ op ≤ 5
  · by_cases hz : (l.length : Int) = z <;> simp [hz, h2, h4, h5, h6, h] <;> (split <;> rename_i hp <;> simp [hp] <;> omega)
  · by_cases hz : (l.length : Int) = z <;> simp [hz, h2, h4, h5, h6, h] <;> (split <;> rename_i hp <;> simp [hp] <;> omega)
theorem node1 (op a b : Int) (l : List S27) (k : Nat) : spec_l15Node.f (k + 1 + 1 + 1) op a b l = some (nodeOk op a b l.length) := by
  simp only [spec_l15Node.f, spec_l15Node.j0, spec_l15Node.j1, spec_IsTime.f, arity1, in1, Option.bind_some]
  unfold nodeOk amax bmax
  generalize arity op = z
  have ha0 : (a == 0) = decide (0 ≤ a ∧ a ≤ 0) := by rw [Bool.eq_iff_iff]; simp; omega
  have hb0 : (b == 0) = decide (0 ≤ b ∧ b ≤ 0) := by rw [Bool.eq_iff_iff]; simp; omega
  rw [ha0, hb0]
  generalize ((l.length : Int)) = y
  have hyz : (y == z) = decide (y = z) := by rw [Bool.eq_iff_iff]; simp
  rw [hyz]
  by_cases h2 : op = 2
  · subst h2; simp; by_cases p : 0 ≤ a ∧ a ≤ 5 <;> by_cases q : 0 ≤ b ∧ b ≤ 10000 <;> simp [p, q] <;> intros <;> omega
  by_cases h4 : op = 4
  · subst h4; simp; by_cases p : 0 ≤ a ∧ a ≤ 3 <;> by_cases q : 0 ≤ b ∧ b ≤ 10000 <;> simp [p, q] <;> intros <;> omega
  by_cases h5 : op = 5
  · subst h5; simp; by_cases p : 0 ≤ a ∧ a ≤ 3 <;> by_cases q : 0 ≤ b ∧ b ≤ 10000 <;> simp [p, q] <;> intros <;> omega
  by_cases h6 : op = 6
  · subst h6; simp; by_cases p : 0 ≤ a ∧ a ≤ 10000 <;> by_cases q : 0 ≤ b ∧ b ≤ 0 <;> simp [p, q] <;> intros <;> omega
  by_cases h : 2 ≤ op ∧ op ≤ 5
  · simp [h2, h4, h5, h6, h]; by_cases p : 0 ≤ a ∧ a ≤ 0 <;> by_cases q : 0 ≤ b ∧ b ≤ 10000 <;> simp [p, q] <;> intros <;> omega
  · simp [h2, h4, h5, h6, h]; by_cases p : 0 ≤ a ∧ a ≤ 0 <;> by_cases q : 0 ≤ b ∧ b ≤ 0 <;> simp [p, q] <;> intros <;> omega
def okSep : Unit := ()
mutual
def okB : S27 → Bool
  | ⟨a, b, c, l⟩ => nodeOk a b c l.length && okBS l
def okBS : List S27 → Bool
  | [] => true
  | x :: l => okB x && okBS l
end
theorem okB_eq (x : S27) : okB x = (nodeOk x.f0 x.f1 x.f2 x.f3.length && okBS x.f3) := by cases x; rw [okB]
theorem okBS_all (l : List S27) : okBS l = l.all okB := by
  induction l with
  | nil => rw [okBS]; rfl
  | cons x l ih => rw [okBS, ih]; rfl
theorem okBS_range (l : List S27) : (List.range l.length).all (fun i => okB (l.getD i z27)) = okBS l := by rw [okBS_all, all_range_getD l z27 okB]
theorem valid1 (N : Nat) : ∀ (a b c : Int) (l : List S27) (k : Nat), nodesBS l ≤ N → N ≤ 1048576 → 4 * N + 8 < k → spec_l15Valid.f k a b c l = some (nodeOk a b c l.length && okBS l) := by
  induction N using Nat.strongRecOn with
  | _ N ih =>
    intro a b c l k hN hN2 hk
    obtain ⟨k, rfl⟩ : ∃ m, k = m + 1 + 1 + 1 + 1 := ⟨k - 4, by omega⟩
    have hb := nodesBS_below l
    rw [spec_l15Valid.f, node1, Option.bind_some]
    by_cases h : nodeOk a b c l.length = true
    · rw [if_pos h, h, Bool.true_and]
      rcases Nat.eq_zero_or_pos l.length with hz | hz
      · obtain rfl : l = [] := List.eq_nil_of_length_eq_zero hz
        rw [spec_l15Valid.l0, if_neg (by simp), okBS]
      rw [allLoop (fun k i => spec_l15Valid.l0 k i a b c l) l.length (4 * (N - l.length) + 9) (fun i => okB (l.getD i z27)) false true ?_ ?_ ?_ (k + 1 + 1 + 1) (by omega), okBS_range]
      · cases okBS l <;> rfl
      · intro k i hk hi hp
        have hlt := nodesB_lt l _ (getD_mem l i z27 hi)
        rw [spec_l15Valid.l0, if_pos (by omega), if_pos (by omega), rdCB, ih (N - l.length) (by omega) _ _ _ _ k (by omega) (by omega) (by omega), Option.bind_some, ← okB_eq, if_pos hp, wrap_succ hi (by omega)]
      · intro k i hk hi hp
        have hlt := nodesB_lt l _ (getD_mem l i z27 hi)
        rw [spec_l15Valid.l0, if_pos (by omega), if_pos (by omega), rdCB, ih (N - l.length) (by omega) _ _ _ _ k (by omega) (by omega) (by omega), Option.bind_some, ← okB_eq, hp, if_neg (by simp)]
      · intro k _
        rw [spec_l15Valid.l0, if_neg (by omega)]
    · rw [if_neg h, Bool.eq_false_iff.2 h, Bool.false_and]
theorem valid2 (N : Nat) : ∀ (a b c : Int) (l : List S27) (k : Nat), nodesBS l ≤ N → N ≤ 1048576 → 7 * N + 9 < k → impl_areNodes.f k a b c l = some (nodeOk a b c l.length && okBS l) := by
  induction N using Nat.strongRecOn with
  | _ N ih =>
    intro a b c l k hN hN2 hk
    obtain ⟨k, rfl⟩ : ∃ m, k = m + 1 + 1 + 1 + 1 := ⟨k - 4, by omega⟩
    have hb := nodesBS_below l
    rw [impl_areNodes.f, node2, Option.bind_some]
    by_cases h : nodeOk a b c l.length = true
    · rw [if_pos h, h, Bool.true_and, impl_Cond_41.f, impl_Cond_55.f]
      have hl : impl_Cond_55.l0 (k + 1) l (l.length : Int) 0 = some (((List.range l.length).find? fun i => !okB (l.getD i z27)).elim (-1) fun i => (i : Int)) := by
        rcases Nat.eq_zero_or_pos l.length with hz | hz
        · obtain rfl : l = [] := List.eq_nil_of_length_eq_zero hz
          rw [impl_Cond_55.l0, if_neg (by simp)]
          rfl
        refine findLoop (fun k i => impl_Cond_55.l0 k l (l.length : Int) i) l.length (7 * (N - l.length) + 11) (fun i => !okB (l.getD i z27)) (fun i => (i : Int)) (-1) ?_ ?_ ?_ (k + 1) (by omega)
        · intro k i hk hi hp
          obtain ⟨k, rfl⟩ : ∃ m, k = m + 1 := ⟨k - 1, by omega⟩
          have hlt := nodesB_lt l _ (getD_mem l i z27 hi)
          rw [impl_Cond_55.l0, if_pos (by omega), if_pos (by omega), if_pos (by omega), rdCB, impl_areNodes_1.f, ih (N - l.length) (by omega) _ _ _ _ k (by omega) (by omega) (by omega), Option.bind_some, Option.bind_some, ← okB_eq, hp, if_neg (by simp), wrap_succ hi (by omega)]
        · intro k i hk hi hp
          obtain ⟨k, rfl⟩ : ∃ m, k = m + 1 := ⟨k - 1, by omega⟩
          have hlt := nodesB_lt l _ (getD_mem l i z27 hi)
          rw [impl_Cond_55.l0, if_pos (by omega), if_pos (by omega), if_pos (by omega), rdCB, impl_areNodes_1.f, ih (N - l.length) (by omega) _ _ _ _ k (by omega) (by omega) (by omega), Option.bind_some, Option.bind_some, ← okB_eq, hp, if_pos rfl]
        · intro k _
          rw [impl_Cond_55.l0, if_neg (by omega)]
      rw [hl, Option.bind_some, Option.bind_some, ← okBS_range]
      congr 1
      cases hf : (List.range l.length).find? fun i => !okB (l.getD i z27) with
      | none =>
        rw [List.find?_eq_none] at hf
        show (!decide ((-1 : Int) ≥ 0)) = _
        rw [show (!decide ((-1 : Int) ≥ 0)) = true from rfl, eq_comm, List.all_eq_true]
        intro i hi
        simpa using hf i hi
      | some i =>
        rw [List.find?_range_eq_some] at hf
        show (!decide ((i : Int) ≥ 0)) = _
        rw [decide_eq_true (show (i : Int) ≥ 0 by omega), eq_comm, show (!true) = false from rfl, List.all_eq_false]
        exact ⟨i, hf.2.1, by simpa using hf.1⟩
    · rw [if_neg h, Bool.eq_false_iff.2 h, Bool.false_and]
/-- What is left of n behind a tree: n - 1 - its other nodes, or less than 0. -/
def leftOk (n : Int) (s : Nat) (r : Int) : Prop := if (s : Int) ≤ n then r = n - (s : Int) else r < 0
theorem left1 (N : Nat) : ∀ (a b c : Int) (l : List S27) (n : Int) (k : Nat), nodesBS l ≤ N → N ≤ 1048576 → 0 ≤ n → n ≤ 1048576 → 4 * N + 8 < k → ∃ r, spec_l15Left.f k a b c l n = some r ∧ leftOk n (1 + nodesBS l) r ∧ -1 ≤ r := by
  induction N using Nat.strongRecOn with
  | _ N ih =>
    intro a b c l n k hN hN2 h0 h1 hk
    obtain ⟨k, rfl⟩ : ∃ m, k = m + 1 := ⟨k - 1, by omega⟩
    have hb := nodesBS_below l
    rw [spec_l15Left.f, wrap_in (by omega) (by omega)]
    rcases Nat.eq_zero_or_pos l.length with hz | hz
    · obtain rfl : l = [] := List.eq_nil_of_length_eq_zero hz
      obtain ⟨k, rfl⟩ : ∃ m, k = m + 1 := ⟨k - 1, by omega⟩
      refine ⟨n - 1, by rw [spec_l15Left.l0, if_neg (by simp)], ?_, by omega⟩
      rw [nodesBS]
      unfold leftOk
      split <;> omega
    have key : ∀ d i k (m : Int), i + d = l.length → d + 4 * (N - l.length) + 10 < k → -1 ≤ m → m ≤ 1048576 → ∃ r, spec_l15Left.l0 k m (i : Int) a b c l = some r ∧ leftOk m (((l.drop i).map nodesB).sum) r ∧ -1 ≤ r := by
      intro d
      induction d with
      | zero =>
        intro i k m hi hk g0 g1
        obtain ⟨k, rfl⟩ : ∃ m, k = m + 1 := ⟨k - 1, by omega⟩
        refine ⟨m, by rw [spec_l15Left.l0, if_neg (by omega)], ?_, g0⟩
        rw [List.drop_of_length_le (by omega)]
        unfold leftOk
        simp only [List.map_nil, List.sum_nil]
        split <;> omega
      | succ d il =>
        intro i k m hi hk g0 g1
        obtain ⟨k, rfl⟩ : ∃ m, k = m + 1 := ⟨k - 1, by omega⟩
        have hlt : i < l.length := by omega
        have hm := getD_mem l i z27 hlt
        have hn := nodesB_lt l _ hm
        have hd : ((l.drop i).map nodesB).sum = nodesB (l.getD i z27) + ((l.drop (i + 1)).map nodesB).sum := by
          rw [List.drop_eq_getElem_cons hlt, List.map_cons, List.sum_cons, getD_get l i _ hlt]
        have hx := nodesB_eq (l.getD i z27)
        rw [spec_l15Left.l0, if_pos (by omega), hd]
        by_cases hm0 : m ≥ 0
        · obtain ⟨r, e, hr, hr0⟩ := ih (N - l.length) (by omega) (l.getD i z27).f0 (l.getD i z27).f1 (l.getD i z27).f2 (l.getD i z27).f3 m k (by omega) (by omega) hm0 g1 (by omega)
          have hrm : r ≤ 1048576 := by unfold leftOk at hr; split at hr <;> omega
          obtain ⟨r2, e2, hr2, hr20⟩ := il (i + 1) k r (by omega) (by omega) hr0 hrm
          refine ⟨r2, ?_, ?_, hr20⟩
          · rw [if_pos hm0, if_pos (by omega), rdCB, e, Option.bind_some, wrap_succ hlt (by omega), e2]
          · unfold leftOk at hr hr2 ⊢
            split at hr <;> split at hr2 <;> split <;> omega
        · refine ⟨m, by rw [if_neg hm0], ?_, g0⟩
          unfold leftOk
          split <;> omega
    obtain ⟨r, e, hr, hr0⟩ := key l.length 0 k (n - 1) (by omega) (by omega) (by omega) (by omega)
    refine ⟨r, e, ?_, hr0⟩
    rw [List.drop_zero, ← nodesBS_sum] at hr
    unfold leftOk at hr ⊢
    split at hr <;> split <;> omega
/-! ### The text of a condition -/
def sp : ByteArray := ⟨#[32]⟩
def nmL : List ByteArray := [⟨#[]⟩, ⟨#[116, 114, 117, 101]⟩, ⟨#[114, 111, 108, 101]⟩, ⟨#[111, 119, 110, 115]⟩, ⟨#[104, 101, 97, 108, 116, 104]⟩, ⟨#[98, 117, 105, 108, 100]⟩, ⟨#[98, 101, 102, 111, 114, 101]⟩, ⟨#[110, 111, 116]⟩, ⟨#[97, 110, 100]⟩, ⟨#[111, 114]⟩]
def nm (op : Nat) : ByteArray := nmL.getD op ByteArray.empty
def numT (n : Int) : ByteArray := ⟨(Go.Lib.itoa n).toArray⟩
def mkT (op a b : Int) (ts : List ByteArray) : ByteArray :=
  if op = 7 then (nm 7 ++ sp) ++ ts.getD 0 ByteArray.empty
  else if op = 8 then (((((⟨#[40]⟩ ++ ts.getD 0 ByteArray.empty) ++ sp) ++ nm 8) ++ sp) ++ ts.getD 1 ByteArray.empty) ++ ⟨#[41]⟩
  else if op = 9 then (((((⟨#[40]⟩ ++ ts.getD 0 ByteArray.empty) ++ sp) ++ nm 9) ++ sp) ++ ts.getD 1 ByteArray.empty) ++ ⟨#[41]⟩
  else if op = 1 then nm 1
  else if op = 3 then nm 3 ++ (sp ++ numT b)
  else if op = 6 then nm 6 ++ (sp ++ numT a)
  else (nm op.toNat ++ (sp ++ numT a)) ++ (sp ++ numT b)
mutual
def txt : S27 → ByteArray
  | ⟨op, a, b, l⟩ => mkT op a b (txtS l)
def txtS : List S27 → List ByteArray
  | [] => []
  | x :: l => txt x :: txtS l
end
theorem txt_eq (x : S27) : txt x = mkT x.f0 x.f1 x.f2 (txtS x.f3) := by cases x; rw [txt]
theorem txt_eta (x : S27) : txt ⟨x.f0, x.f1, x.f2, x.f3⟩ = txt x := by cases x; rfl
theorem one_of {α : Type} {l : List α} (h : l.length = 1) : ∃ x, l = [x] := by
  match l, h with
  | [x], _ => exact ⟨x, rfl⟩
theorem two_of {α : Type} {l : List α} (h : l.length = 2) : ∃ x y, l = [x, y] := by
  match l, h with
  | [x, y], _ => exact ⟨x, y, rfl⟩
theorem sz_sp : sp.size = 1 := rfl
theorem sz_open : (⟨#[40]⟩ : ByteArray).size = 1 := rfl
theorem sz_shut : (⟨#[41]⟩ : ByteArray).size = 1 := rfl
theorem sz_blank : (⟨#[32]⟩ : ByteArray).size = 1 := rfl
theorem sz_nm (op : Nat) : (nm op).size ≤ 6 := by
  unfold nm nmL
  match op with
  | 0 => decide
  | 1 => decide
  | 2 => decide
  | 3 => decide
  | 4 => decide
  | 5 => decide
  | 6 => decide
  | 7 => decide
  | 8 => decide
  | 9 => decide
  | n + 10 => simp
theorem nDigits_le : ∀ (k u : Nat), u < 10 ^ (k + 1) → Go.Lib.nDigits u ≤ k + 1
  | 0, u, h => by rw [Go.Lib.nDigits_small (by simpa using h)]; omega
  | k + 1, u, h => by
    by_cases hs : u < 10
    · rw [Go.Lib.nDigits_small hs]; omega
    · rw [Go.Lib.nDigits_big hs]
      have := nDigits_le k (u / 10) (by rw [Nat.pow_succ] at h; omega)
      omega
theorem itoa_nat (u : Nat) : Go.Lib.itoa (u : Int) = Go.Lib.decDigits u := by
  unfold Go.Lib.itoa
  rw [if_neg (by omega), Int.toNat_natCast]
theorem sz_num (n : Int) (h0 : 0 ≤ n) (h1 : n ≤ 10000) : (numT n).size ≤ 5 := by
  obtain ⟨u, rfl⟩ : ∃ u : Nat, n = u := ⟨n.toNat, by omega⟩
  have h : (numT (u : Int)).size = Go.Lib.nDigits u := by
    unfold numT
    rw [itoa_nat]
    show (Go.Lib.decDigits u).toArray.size = _
    rw [List.size_toArray, Go.Lib.decDigits_length]
  rw [h]
  exact nDigits_le 4 u (by omega)
theorem fmt2 (n : Int) (h0 : 0 ≤ n) (h1 : n ≤ 10000) : impl_FormatInt.f n = some (numT n) := by
  unfold impl_FormatInt.f strconv_Itoa.f
  rw [if_pos ⟨by omega, by omega⟩]
  rfl
theorem digit_str (u : Nat) (s : List UInt8) (hu : u < 10) : strOfNums [(wrap64 (48 + (u : Int))) % 256] ++ (⟨s.toArray⟩ : ByteArray) = ⟨(UInt8.ofNat (48 + u) :: s).toArray⟩ := by
  have e : (wrap64 (48 + (u : Int))) % 256 = ((48 + u : Nat) : Int) := by rw [wrap_in (by omega) (by omega)]; omega
  rw [e]
  unfold strOfNums
  rw [List.map_cons, List.map_nil, Int.toNat_natCast]
  apply ByteArray.ext
  rw [ByteArray.data_append]
  show (#[UInt8.ofNat (48 + u)] ++ s.toArray : Array UInt8) = (UInt8.ofNat (48 + u) :: s).toArray
  simp
theorem fmt_loop (n : Int) (hn : 0 ≤ n) : ∀ (u : Nat) (s : List UInt8) (k : Nat), 0 < u → u + s.length ≤ 1000000 → Go.Lib.nDigits u + 1 < k → spec_FormatInt.l0 k n ⟨s.toArray⟩ (u : Int) = some ⟨(Go.Lib.decDigits u ++ s).toArray⟩ := by
  intro u
  induction u using Nat.strongRecOn with
  | _ u ih =>
    intro s k hu hs hk
    have hp := Go.Lib.nDigits_pos u
    obtain ⟨k, rfl⟩ : ∃ m, k = m + 2 := ⟨k - 2, by omega⟩
    have hm : Int.tmod (u : Int) 10 = ((u % 10 : Nat) : Int) := by rw [Int.tmod_eq_emod_of_nonneg (by omega)]; omega
    have hd : wrap64 (Int.tdiv (u : Int) 10) = ((u / 10 : Nat) : Int) := by rw [Int.tdiv_eq_ediv_of_nonneg (by omega), wrap_in (by omega) (by omega)]; omega
    have hsz : (strOfNums [(wrap64 (48 + ((u % 10 : Nat) : Int))) % 256]).size + (⟨s.toArray⟩ : ByteArray).size ≤ 9223372036854775807 := by
      rw [strOfNums_size]
      show 1 + s.toArray.size ≤ _
      rw [List.size_toArray]
      omega
    rw [spec_FormatInt.l0, if_neg (by omega), hm, if_neg (by omega), Option.bind_some, if_pos hsz, hd, digit_str _ _ (by omega)]
    by_cases h : u < 10
    · rw [spec_FormatInt.l0, if_pos (by omega), if_neg (by omega), Go.Lib.decDigits_one h, Nat.mod_eq_of_lt h]
      rfl
    · have hb := Go.Lib.nDigits_big h
      rw [ih (u / 10) (by omega) _ (k + 1) (by omega) (by rw [List.length_cons]; omega) (by omega)]
      congr 2
      conv => rhs; rw [Go.Lib.decDigits, dif_neg h]
      rw [List.append_assoc]
      rfl
theorem fmt1 (n : Int) (h0 : 0 ≤ n) (h1 : n ≤ 10000) (k : Nat) (hk : 10 < k) : spec_FormatInt.f k n = some (numT n) := by
  unfold spec_FormatInt.f
  obtain ⟨u, rfl⟩ : ∃ u : Nat, n = u := ⟨n.toNat, by omega⟩
  by_cases h : u = 0
  · subst h
    rw [if_pos (by simp)]
    unfold numT
    rw [itoa_nat, Go.Lib.decDigits_one (by omega)]
    rfl
  · have hd := nDigits_le 4 u (by omega)
    rw [if_neg (by omega)]
    have := fmt_loop (u : Int) (by omega) u [] k (by omega) (by simp; omega) (by omega)
    rw [List.append_nil] at this
    unfold numT
    rw [itoa_nat]
    exact this
theorem nodeOk_op {op a b : Int} {n : Nat} (h : nodeOk op a b n = true) : (n : Int) = arity op ∧ 0 ≤ a ∧ a ≤ amax op ∧ 0 ≤ b ∧ b ≤ bmax op ∧ 1 ≤ op ∧ op ≤ 9 := by
  unfold nodeOk at h
  simp only [Bool.and_eq_true, decide_eq_true_eq] at h
  obtain ⟨h1, ⟨h2, h3⟩, h4, h5⟩ := h
  refine ⟨h1, h2, h3, h4, h5, ?_⟩
  unfold arity at h1
  repeat' split at h1
  all_goals omega
theorem amax_le (op : Int) : amax op ≤ 10000 := by unfold amax; repeat' split; all_goals omega
theorem bmax_le (op : Int) : bmax op ≤ 10000 := by unfold bmax; split <;> omega
/-- The text of a valid condition has at most 64 letters a node. -/
theorem txt_size (N : Nat) : ∀ (a b c : Int) (l : List S27), nodesBS l ≤ N → nodeOk a b c l.length = true → okBS l = true → (txt ⟨a, b, c, l⟩).size ≤ 64 * (1 + nodesBS l) := by
  induction N using Nat.strongRecOn with
  | _ N ih =>
    intro op a b l hN ho hl
    obtain ⟨hn, a0, a1, b0, b1, o0, o1⟩ := nodeOk_op ho
    have am := amax_le op
    have bm := bmax_le op
    have za := sz_num a a0 (by omega)
    have zb := sz_num b b0 (by omega)
    rw [txt]
    have child : ∀ x ∈ l, (txt x).size ≤ 64 * nodesB x := by
      intro x hx
      have hlt := nodesB_lt l x hx
      have hp : 0 < l.length := List.length_pos_of_mem hx
      have hok : okB x = true := by
        rw [okBS_all, List.all_eq_true] at hl
        exact hl x hx
      rw [okB_eq, Bool.and_eq_true] at hok
      have := ih (N - 1) (by omega) x.f0 x.f1 x.f2 x.f3 (by omega) hok.1 hok.2
      rw [nodesB_eq, ← txt_eta]
      exact this
    unfold mkT
    have z7 := sz_nm 7
    have z8 := sz_nm 8
    have z9 := sz_nm 9
    have z1 := sz_nm 1
    have z3 := sz_nm 3
    have z6 := sz_nm 6
    have zo := sz_nm op.toNat
    by_cases h7 : op = 7
    · rw [if_pos h7]
      obtain ⟨x, rfl⟩ : ∃ x, l = [x] := one_of (by subst h7; unfold arity at hn; simp at hn; omega)
      have hx := child x (by simp)
      simp only [txtS, List.getD_cons_zero, ByteArray.size_append, sz_sp, nodesBS]
      omega
    rw [if_neg h7]
    by_cases h8 : op = 8
    · rw [if_pos h8]
      obtain ⟨x, y, rfl⟩ : ∃ x y, l = [x, y] := two_of (by subst h8; unfold arity at hn; simp at hn; omega)
      have hx := child x (by simp)
      have hy := child y (by simp)
      simp only [txtS, List.getD_cons_zero, List.getD_cons_succ, ByteArray.size_append, sz_sp, sz_open, sz_shut, nodesBS]
      omega
    rw [if_neg h8]
    by_cases h9 : op = 9
    · rw [if_pos h9]
      obtain ⟨x, y, rfl⟩ : ∃ x y, l = [x, y] := two_of (by subst h9; unfold arity at hn; simp at hn; omega)
      have hx := child x (by simp)
      have hy := child y (by simp)
      simp only [txtS, List.getD_cons_zero, List.getD_cons_succ, ByteArray.size_append, sz_sp, sz_open, sz_shut, nodesBS]
      omega
    rw [if_neg h9]
    split
    · omega
    · split
      · simp only [ByteArray.size_append, sz_sp]; omega
      · split
        · simp only [ByteArray.size_append, sz_sp]; omega
        · simp only [ByteArray.size_append, sz_sp]; omega
theorem name2 (op : Int) (o0 : 1 ≤ op) (o1 : op ≤ 9) : strconv_small.f op = some (nm op.toNat) := by
  have h : op = 1 ∨ op = 2 ∨ op = 3 ∨ op = 4 ∨ op = 5 ∨ op = 6 ∨ op = 7 ∨ op = 8 ∨ op = 9 := by omega
  rcases h with rfl | rfl | rfl | rfl | rfl | rfl | rfl | rfl | rfl <;> rfl
theorem name1 (op : Int) (o0 : 1 ≤ op) (o1 : op ≤ 9) : spec_CondName.f op = some (nm op.toNat) := by
  unfold spec_CondName.f
  rw [in1, Option.bind_some, decide_eq_true ⟨o0, o1⟩, if_pos rfl, Option.bind_some, if_pos (by omega), if_pos (by simp; omega)]
  rfl
theorem rd0 (l : List S27) (x : S27) : rd_T27 (x :: l) 0 = x := rfl
theorem rd1 (l : List S27) (x y : S27) : rd_T27 (x :: y :: l) 1 = y := rfl
theorem fmtC (N : Nat) : ∀ (op a b : Int) (l : List S27) (k : Nat), nodesBS l ≤ N → N ≤ 100 → nodeOk op a b l.length = true → okBS l = true → 4 * N + 8 < k → impl_formatCond.f k op a b l = some (txt ⟨op, a, b, l⟩) := by
  induction N using Nat.strongRecOn with
  | _ N ih =>
    intro op a b l k hN hN2 ho hl hk
    obtain ⟨hn, a0, a1, b0, b1, o0, o1⟩ := nodeOk_op ho
    have am := amax_le op
    have bm := bmax_le op
    have za := sz_num a a0 (by omega)
    have zb := sz_num b b0 (by omega)
    obtain ⟨k, rfl⟩ : ∃ m, k = m + 1 + 1 + 1 + 1 := ⟨k - 4, by omega⟩
    have child : ∀ x ∈ l, ∀ j, 4 * N + 4 < j → impl_formatCond.f j x.f0 x.f1 x.f2 x.f3 = some (txt x) ∧ (txt x).size ≤ 6464 := by
      intro x hx j hj
      have hlt := nodesB_lt l x hx
      have hp : 0 < l.length := List.length_pos_of_mem hx
      have hok : okB x = true := by
        rw [okBS_all, List.all_eq_true] at hl
        exact hl x hx
      rw [okB_eq, Bool.and_eq_true] at hok
      rw [← txt_eta]
      refine ⟨ih (N - 1) (by omega) x.f0 x.f1 x.f2 x.f3 j (by omega) (by omega) hok.1 hok.2 (by omega), ?_⟩
      have := txt_size (nodesBS x.f3) x.f0 x.f1 x.f2 x.f3 (Nat.le_refl _) hok.1 hok.2
      omega
    have zo := sz_nm op.toNat
    rw [impl_formatCond.f, name2 op o0 o1, Option.bind_some, txt, mkT]
    by_cases h7 : op = 7
    · rw [if_pos h7, if_pos h7]
      subst h7
      obtain ⟨x, rfl⟩ : ∃ x, l = [x] := one_of (by unfold arity at hn; simp at hn; omega)
      obtain ⟨ex, hx⟩ := child x (by simp) (k + 1 + 1 + 1) (by omega)
      rw [if_pos (by omega), if_pos (by simp), rd0, ex, Option.bind_some, if_pos (by simp only [ByteArray.size_append, sz_blank]; omega)]
      rfl
    rw [if_neg h7, if_neg h7]
    by_cases h8 : op = 8
    · rw [if_pos h8, if_pos h8]
      subst h8
      obtain ⟨x, y, rfl⟩ : ∃ x y, l = [x, y] := two_of (by unfold arity at hn; simp at hn; omega)
      obtain ⟨ex, hx⟩ := child x (by simp) (k + 1 + 1) (by omega)
      obtain ⟨ey, hy⟩ := child y (by simp) (k + 1 + 1) (by omega)
      rw [impl_formatCond.j0, if_pos (show ((8 : Int) == 8) = true from rfl), if_pos (by simp), rd0, ex, Option.bind_some, if_pos (by omega), if_pos (by simp only [ByteArray.size_append, sz_open]; omega), if_pos (by simp only [ByteArray.size_append, sz_open, sz_blank]; omega), if_pos (by simp only [ByteArray.size_append, sz_open, sz_blank]; omega), if_pos (by simp), rd1, ey, Option.bind_some, if_pos (by simp only [ByteArray.size_append, sz_open, sz_blank]; omega), if_pos (by simp only [ByteArray.size_append, sz_open, sz_blank]; omega)]
      rfl
    rw [if_neg h8, if_neg h8]
    by_cases h9 : op = 9
    · rw [if_pos h9]
      subst h9
      obtain ⟨x, y, rfl⟩ : ∃ x y, l = [x, y] := two_of (by unfold arity at hn; simp at hn; omega)
      obtain ⟨ex, hx⟩ := child x (by simp) (k + 1 + 1) (by omega)
      obtain ⟨ey, hy⟩ := child y (by simp) (k + 1 + 1) (by omega)
      rw [impl_formatCond.j0, if_pos (show ((9 : Int) == 9) = true from rfl), if_pos (by simp), rd0, ex, Option.bind_some, if_pos (by omega), if_pos (by simp only [ByteArray.size_append, sz_open]; omega), if_pos (by simp only [ByteArray.size_append, sz_open, sz_blank]; omega), if_pos (by simp only [ByteArray.size_append, sz_open, sz_blank]; omega), if_pos (by simp), rd1, ey, Option.bind_some, if_pos (by simp only [ByteArray.size_append, sz_open, sz_blank]; omega), if_pos (by simp only [ByteArray.size_append, sz_open, sz_blank]; omega)]
      rfl
    rw [if_neg h9, impl_formatCond.j0, if_neg (by simp; omega)]
    have ea := fmt2 a a0 (by omega)
    have eb := fmt2 b b0 (by omega)
    have two : ∀ s : ByteArray, s.size ≤ 20 → impl_formatCond.j2 (k + 1) s op a b l = some (if 2 ≤ op ∧ op ≤ 5 then s ++ (sp ++ numT b) else s) := by
      intro s hs
      rw [impl_formatCond.j2, in2, Option.bind_some]
      by_cases hr : 2 ≤ op ∧ op ≤ 5
      · rw [decide_eq_true hr, if_pos rfl, if_pos hr, eb, Option.bind_some, if_pos (by omega), if_pos (by simp only [ByteArray.size_append, sz_blank]; omega)]
        rfl
      · rw [decide_eq_false hr, if_neg (by simp), if_neg hr]
    by_cases h1 : op = 1
    · rw [if_pos h1, if_pos h1, impl_formatCond.j1, if_neg (by simp), two _ (by omega), if_neg (by omega)]
      subst h1
      rfl
    rw [if_neg h1, if_neg h1, impl_formatCond.j1]
    by_cases h3 : op = 3
    · rw [if_neg (by simp [h3]), two _ (by omega), if_pos (by omega), if_pos h3]
      subst h3
      rfl
    rw [if_pos (by simp [h3]), ea, Option.bind_some, if_pos (by omega), if_pos (by simp only [ByteArray.size_append, sz_blank]; omega), two _ (by simp only [ByteArray.size_append, sz_blank]; omega), if_neg h3]
    by_cases h6 : op = 6
    · rw [if_neg (by omega), if_pos h6]
      subst h6
      rfl
    · rw [if_pos (by omega), if_neg h6]
      rfl
theorem l16C (N : Nat) : ∀ (op a b : Int) (l : List S27) (k : Nat), nodesBS l ≤ N → N ≤ 100 → nodeOk op a b l.length = true → okBS l = true → 3 * N + 20 < k → spec_l16Text.f k op a b l = some (txt ⟨op, a, b, l⟩) := by
  induction N using Nat.strongRecOn with
  | _ N ih =>
    intro op a b l k hN hN2 ho hl hk
    obtain ⟨hn, a0, a1, b0, b1, o0, o1⟩ := nodeOk_op ho
    have am := amax_le op
    have bm := bmax_le op
    have za := sz_num a a0 (by omega)
    have zb := sz_num b b0 (by omega)
    obtain ⟨k, rfl⟩ : ∃ m, k = m + 1 + 1 + 1 := ⟨k - 3, by omega⟩
    have child : ∀ x ∈ l, ∀ j, 3 * N + 17 < j → spec_l16Text.f j x.f0 x.f1 x.f2 x.f3 = some (txt x) ∧ (txt x).size ≤ 6464 := by
      intro x hx j hj
      have hlt := nodesB_lt l x hx
      have hp : 0 < l.length := List.length_pos_of_mem hx
      have hok : okB x = true := by
        rw [okBS_all, List.all_eq_true] at hl
        exact hl x hx
      rw [okB_eq, Bool.and_eq_true] at hok
      rw [← txt_eta]
      refine ⟨ih (N - 1) (by omega) x.f0 x.f1 x.f2 x.f3 j (by omega) (by omega) hok.1 hok.2 (by omega), ?_⟩
      have := txt_size (nodesBS x.f3) x.f0 x.f1 x.f2 x.f3 (Nat.le_refl _) hok.1 hok.2
      omega
    have zo := sz_nm op.toNat
    have ea := fmt1 a a0 (by omega) (k + 1) (by omega)
    have eb := fmt1 b b0 (by omega) (k + 1) (by omega)
    have J : ∀ c : Bool, c = decide (op = 2 ∨ op = 4 ∨ op = 5) → spec_l16Text.j0 (k + 1 + 1) (nm op.toNat) op c op a b l = some (mkT op a b (txtS l)) := by
      intro c hc
      subst hc
      rw [spec_l16Text.j0, mkT]
      by_cases h2 : op = 2 ∨ op = 4 ∨ op = 5
      · rw [decide_eq_true h2, if_pos rfl, if_pos (by omega), ea, Option.bind_some, if_pos (by simp only [ByteArray.size_append, sz_blank]; omega), if_pos (by simp only [ByteArray.size_append, sz_blank]; omega), eb, Option.bind_some, if_pos (by simp only [ByteArray.size_append, sz_blank]; omega)]
        rw [if_neg (by omega), if_neg (by omega), if_neg (by omega), if_neg (by omega), if_neg (by omega), if_neg (by omega)]
        simp only [ByteArray.append_assoc]
        rfl
      rw [decide_eq_false h2, if_neg (by simp)]
      by_cases h3 : op = 3
      · rw [if_pos h3, if_pos (by omega), eb, Option.bind_some, if_pos (by simp only [ByteArray.size_append, sz_blank]; omega)]
        subst h3
        rw [if_neg (by omega), if_neg (by omega), if_neg (by omega), if_neg (by omega), if_pos rfl]
        simp only [ByteArray.append_assoc]
        rfl
      rw [if_neg h3]
      by_cases h6 : op = 6
      · rw [if_pos h6, if_pos (by omega), ea, Option.bind_some, if_pos (by simp only [ByteArray.size_append, sz_blank]; omega)]
        subst h6
        rw [if_neg (by omega), if_neg (by omega), if_neg (by omega), if_neg (by omega), if_neg (by omega), if_pos rfl]
        simp only [ByteArray.append_assoc]
        rfl
      rw [if_neg h6]
      by_cases h7 : op = 7
      · rw [if_pos h7, if_pos h7]
        subst h7
        obtain ⟨x, rfl⟩ : ∃ x, l = [x] := one_of (by unfold arity at hn; simp at hn; omega)
        obtain ⟨ex, hx⟩ := child x (by simp) (k + 1) (by omega)
        rw [if_pos (by omega), if_pos (by simp), rd0, ex, Option.bind_some, if_pos (by simp only [ByteArray.size_append, sz_blank]; omega)]
        rfl
      rw [if_neg h7, if_neg h7]
      by_cases h8 : op = 8
      · rw [if_pos h8, if_pos h8]
        subst h8
        obtain ⟨x, y, rfl⟩ : ∃ x y, l = [x, y] := two_of (by unfold arity at hn; simp at hn; omega)
        obtain ⟨ex, hx⟩ := child x (by simp) k (by omega)
        obtain ⟨ey, hy⟩ := child y (by simp) k (by omega)
        rw [spec_l16Text.j1, if_pos (show ((8 : Int) == 8) = true from rfl), if_pos (by simp), rd0, ex, Option.bind_some, if_pos (by omega), if_pos (by simp only [ByteArray.size_append, sz_open]; omega), if_pos (by simp only [ByteArray.size_append, sz_open, sz_blank]; omega), if_pos (by simp only [ByteArray.size_append, sz_open, sz_blank]; omega), if_pos (by simp), rd1, ey, Option.bind_some, if_pos (by simp only [ByteArray.size_append, sz_open, sz_blank]; omega), if_pos (by simp only [ByteArray.size_append, sz_open, sz_blank]; omega)]
        rfl
      rw [if_neg h8, if_neg h8, spec_l16Text.j1]
      by_cases h9 : op = 9
      · rw [if_pos (by simp [h9]), if_pos h9]
        subst h9
        obtain ⟨x, y, rfl⟩ : ∃ x y, l = [x, y] := two_of (by unfold arity at hn; simp at hn; omega)
        obtain ⟨ex, hx⟩ := child x (by simp) k (by omega)
        obtain ⟨ey, hy⟩ := child y (by simp) k (by omega)
        rw [if_pos (by simp), rd0, ex, Option.bind_some, if_pos (by omega), if_pos (by simp only [ByteArray.size_append, sz_open]; omega), if_pos (by simp only [ByteArray.size_append, sz_open, sz_blank]; omega), if_pos (by simp only [ByteArray.size_append, sz_open, sz_blank]; omega), if_pos (by simp), rd1, ey, Option.bind_some, if_pos (by simp only [ByteArray.size_append, sz_open, sz_blank]; omega), if_pos (by simp only [ByteArray.size_append, sz_open, sz_blank]; omega)]
        rfl
      have h1 : op = 1 := by omega
      rw [if_neg (by simp [h9]), if_neg h9, if_pos h1]
      subst h1
      rfl
    rw [spec_l16Text.f, name1 op o0 o1, Option.bind_some, txt]
    by_cases h2 : op = 2
    · rw [if_pos h2]
      exact J _ (by rw [h2]; rfl)
    rw [if_neg h2]
    by_cases h4 : op = 4
    · rw [if_pos h4]
      exact J _ (by rw [h4]; rfl)
    rw [if_neg h4]
    exact J _ (by rw [Bool.eq_iff_iff]; simp [h2, h4])
/-- Is it a condition? -/
def okC (a b c : Int) (l : List S27) : Bool := decide (1 + nodesBS l ≤ 15) && (nodeOk a b c l.length && okBS l)
theorem isCond1 (a b c : Int) (l : List S27) (k : Nat) (hl : nodesBS l ≤ 1048576) (hk : 7 * nodesBS l + 20 < k) : spec_IsCond.f k a b c l = some (okC a b c l) := by
  obtain ⟨r, e, hr, _⟩ := left1 (nodesBS l) a b c l 15 k (Nat.le_refl _) (by omega) (by omega) (by omega) (by omega)
  rw [spec_IsCond.f, e, Option.bind_some, valid1 (nodesBS l) a b c l k (Nat.le_refl _) (by omega) (by omega)]
  unfold leftOk at hr
  unfold okC
  split at hr
  · rw [if_pos (by omega), decide_eq_true (by omega), Bool.true_and]
    rfl
  · rw [if_neg (by omega), decide_eq_false (by omega), Bool.false_and]
theorem isCond2 (a b c : Int) (l : List S27) (k : Nat) (hl : nodesBS l ≤ 1048576) (hk : 7 * nodesBS l + 20 < k) : impl_IsCond.f k a b c l = some (okC a b c l) := by
  rw [impl_IsCond.f, size2 (nodesBS l) a b c l k (Nat.le_refl _) (by omega) (by omega), Option.bind_some, valid2 (nodesBS l) a b c l k (Nat.le_refl _) (by omega) (by omega)]
  unfold okC
  split
  · rw [decide_eq_true (by omega), Bool.true_and]
    rfl
  · rw [decide_eq_false (by omega), Bool.false_and]
/-- The text of a condition; of what is none the empty text. -/
def fmtT (a b c : Int) (l : List S27) : ByteArray := if okC a b c l = true then txt ⟨a, b, c, l⟩ else ⟨#[]⟩
theorem format1 (a b c : Int) (l : List S27) (k : Nat) (hl : nodesBS l ≤ 1048576) (hk : 7 * nodesBS l + 100 < k) : spec_FormatCond.f k a b c l = some (fmtT a b c l) := by
  rw [spec_FormatCond.f, isCond1 a b c l k hl (by omega), Option.bind_some]
  unfold fmtT
  by_cases h : okC a b c l = true
  · rw [if_pos h, if_pos h]
    unfold okC at h
    simp only [Bool.and_eq_true, decide_eq_true_eq] at h
    rw [l16C (nodesBS l) a b c l k (Nat.le_refl _) (by omega) h.2.1 h.2.2 (by omega)]
    rfl
  · rw [if_neg h, if_neg h]
theorem format2 (a b c : Int) (l : List S27) (k : Nat) (hl : nodesBS l ≤ 1048576) (hk : 7 * nodesBS l + 100 < k) : impl_FormatCond.f k a b c l = some (fmtT a b c l) := by
  rw [impl_FormatCond.f, isCond2 a b c l k hl (by omega), Option.bind_some]
  unfold fmtT
  by_cases h : okC a b c l = true
  · rw [if_pos h, if_pos h]
    unfold okC at h
    simp only [Bool.and_eq_true, decide_eq_true_eq] at h
    rw [fmtC (nodesBS l) a b c l k (Nat.le_refl _) (by omega) h.2.1 h.2.2 (by omega)]
    rfl
  · rw [if_neg h, if_neg h]
/-! ### The reader reads back what the text says -/
theorem hasP (r n : ByteArray) : strings_HasPrefix.f r n = some (n.data.toList.isPrefixOf r.data.toList) := by
  have hn : n.data.toList.length = n.size := Array.length_toList
  have hr : r.data.toList.length = r.size := Array.length_toList
  unfold strings_HasPrefix.f stringslite_HasPrefix.f
  by_cases h : (r.size : Int) ≥ (n.size : Int)
  · rw [if_pos h, if_pos (by omega), if_pos (by omega), Option.bind_some]
    congr 1
    rw [Int.toNat_natCast, Bool.eq_iff_iff, beq_iff_eq, List.isPrefixOf_iff_prefix, List.prefix_iff_eq_take, ByteArray.toList_eq, ByteArray.toList_eq, ByteArray.data_extract, Array.toList_extract, hn]
    simp only [List.extract_eq_take_drop, List.drop_zero, Nat.sub_zero]
    exact eq_comm
  · rw [if_neg h, Option.bind_some]
    congr 1
    symm
    rw [Bool.eq_false_iff]
    intro q
    have := (List.isPrefixOf_iff_prefix.1 q).length_le
    omega
theorem hasL (r n : ByteArray) : stringslite_HasPrefix.f r n = some (n.data.toList.isPrefixOf r.data.toList) := by
  have h := hasP r n
  unfold strings_HasPrefix.f at h
  cases e : stringslite_HasPrefix.f r n with
  | none => rw [e] at h; cases h
  | some b => rw [e] at h; exact h
theorem needP (p t : ByteArray) : impl_condReader_need.f (p ++ t) false p = some (t, false) := by
  have hp : p.data.toList.isPrefixOf (p ++ t).data.toList = true := by
    rw [List.isPrefixOf_iff_prefix, ByteArray.toList_data_append]
    exact List.prefix_append _ _
  unfold impl_condReader_need.f strings_CutPrefix.f stringslite_CutPrefix.f
  rw [hasL, hp, Option.bind_some, if_pos rfl, if_pos (by omega), if_pos (by rw [ByteArray.size_append]; omega), Int.toNat_natCast, ByteArray.extract_append_eq_right rfl ByteArray.size_append]
  rfl
theorem bt_list (s : ByteArray) (i : Int) : bt s i = ((s.data.toList.getD i.toNat 0).toNat : Int) := by
  unfold bt
  by_cases h : i.toNat < s.size
  · rw [dif_pos h, List.getD_eq_getElem?_getD, List.getElem?_eq_getElem (by rw [Array.length_toList]; exact h), Option.getD_some, Array.getElem_toList]
    rfl
  · rw [dif_neg h, List.getD_eq_getElem?_getD, List.getElem?_eq_none (by rw [Array.length_toList]; exact Nat.le_of_not_lt h)]
    rfl
theorem bt_left (D t : ByteArray) (i : Nat) (h : i < D.size) : bt (D ++ t) (i : Int) = bt D (i : Int) := by
  rw [bt_list, bt_list, ByteArray.toList_data_append, Int.toNat_natCast, List.getD_eq_getElem?_getD, List.getD_eq_getElem?_getD, List.getElem?_append_left (by rw [Array.length_toList]; exact h)]
theorem bt_right (D t : ByteArray) : bt (D ++ t) (D.size : Int) = bt t 0 := by
  have hl : D.data.toList.length = D.size := Array.length_toList
  rw [bt_list, bt_list, ByteArray.toList_data_append, Int.toNat_natCast, List.getD_eq_getElem?_getD, List.getD_eq_getElem?_getD, List.getElem?_append_right (by omega), hl, Nat.sub_self]
  rfl
theorem digits_in (u : Nat) : ∀ b ∈ Go.Lib.decDigits u, 48 ≤ b.toNat ∧ b.toNat ≤ 57 := by
  induction u using Nat.strongRecOn with
  | _ u ih =>
    intro b hb
    have one : ∀ d : Nat, d < 10 → 48 ≤ (UInt8.ofNat (48 + d)).toNat ∧ (UInt8.ofNat (48 + d)).toNat ≤ 57 := by
      intro d hd
      rw [UInt8.toNat_ofNat']
      omega
    by_cases h : u < 10
    · rw [Go.Lib.decDigits_one h, List.mem_singleton] at hb
      subst hb
      exact one u h
    · rw [Go.Lib.decDigits, dif_neg h, List.mem_append, List.mem_singleton] at hb
      rcases hb with hb | hb
      · exact ih (u / 10) (by omega) b hb
      · subst hb
        exact one _ (by omega)
theorem digitVal_of (d : Nat) (hd : d < 10) : Go.Lib.digitVal (UInt8.ofNat (48 + d)) = some d := by
  unfold Go.Lib.digitVal
  rw [UInt8.toNat_ofNat', if_pos (by omega)]
  congr 1
  omega
theorem decFrom_snoc (b : UInt8) (d : Nat) (hb : Go.Lib.digitVal b = some d) : ∀ (l : List UInt8) (acc : Nat), Go.Lib.decFrom acc (l ++ [b]) = (Go.Lib.decFrom acc l).map fun m => m * 10 + d := by
  intro l
  induction l with
  | nil =>
    intro acc
    simp [Go.Lib.decFrom, hb]
  | cons c r ih =>
    intro acc
    rw [List.cons_append, Go.Lib.decFrom, Go.Lib.decFrom]
    cases Go.Lib.digitVal c with
    | none => rfl
    | some q => exact ih _
theorem dec_digits (u : Nat) : Go.Lib.decFrom 0 (Go.Lib.decDigits u) = some u := by
  induction u using Nat.strongRecOn with
  | _ u ih =>
    by_cases h : u < 10
    · rw [Go.Lib.decDigits_one h, Go.Lib.decFrom, digitVal_of u h]
      show Go.Lib.decFrom (0 * 10 + u) [] = some u
      rw [Go.Lib.decFrom, Nat.zero_mul, Nat.zero_add]
    · rw [Go.Lib.decDigits, dif_neg h, decFrom_snoc _ _ (digitVal_of (u % 10) (by omega)), ih (u / 10) (by omega), Option.map_some]
      congr 1
      omega
theorem atoi_dec (u : Nat) : Go.Lib.atoi (Go.Lib.decDigits u) = some (u : Int) := by
  have hd := dec_digits u
  have hi := digits_in u
  have hp := Go.Lib.nDigits_pos u
  have hl := Go.Lib.decDigits_length u
  cases e : Go.Lib.decDigits u with
  | nil => rw [e] at hl; simp at hl; omega
  | cons b r =>
    rw [e] at hd hi
    have hb := hi b (by simp)
    unfold Go.Lib.atoi Go.Lib.decNat
    dsimp only
    rw [if_neg (by intro q; rw [eq_of_beq q] at hb; exact absurd hb.1 (by decide)), if_neg (by intro q; rw [eq_of_beq q] at hb; exact absurd hb.1 (by decide)), if_neg (by simp), hd]
    rfl
theorem parseNum (n : Int) (h0 : 0 ≤ n) (h1 : n ≤ 10000) : impl_ParseInt.f (numT n) = some (n, true) := by
  have hs := sz_num n h0 h1
  obtain ⟨u, rfl⟩ : ∃ u : Nat, n = u := ⟨n.toNat, by omega⟩
  have hd : (numT (u : Int)).data.toList = Go.Lib.decDigits u := by
    unfold numT
    rw [itoa_nat]
  unfold impl_ParseInt.f
  rw [if_pos (by omega), hd, atoi_dec]
  congr 1
  show (if _ then _ else _) = _
  rw [if_pos ⟨by omega, by omega, itoa_nat u⟩]
/-- What may stand behind a number: nothing, or a letter below the digits. -/
def okTail (t : ByteArray) : Prop := t.size = 0 ∨ bt t 0 < 48
theorem numberP (n : Int) (h0 : 0 ≤ n) (h1 : n ≤ 10000) (t : ByteArray) (ht : okTail t) (k : Nat) (hk : 10 < k) : impl_condReader_number.f k (sp ++ (numT n ++ t)) false = some (n, t, false) := by
  have hs := sz_num n h0 h1
  have hp := parseNum n h0 h1
  have hdig : ∀ i : Nat, i < (numT n).size → 48 ≤ bt (numT n) (i : Int) ∧ bt (numT n) (i : Int) ≤ 57 := by
    intro i hi
    obtain ⟨u, rfl⟩ : ∃ u : Nat, n = u := ⟨n.toNat, by omega⟩
    have hd : (numT (u : Int)).data.toList = Go.Lib.decDigits u := by
      unfold numT
      rw [itoa_nat]
    have hl : (numT (u : Int)).data.toList.length = (numT (u : Int)).size := Array.length_toList
    rw [bt_list, Int.toNat_natCast, List.getD_eq_getElem?_getD, List.getElem?_eq_getElem (by omega), Option.getD_some]
    have := digits_in u ((numT (u : Int)).data.toList[i]'(by omega)) (by rw [← hd]; exact List.getElem_mem _)
    omega
  have hend : impl_ParseInt.f ((numT n ++ t).extract 0 (numT n).size) = some (n, true) ∧ (numT n ++ t).extract (numT n).size (numT n ++ t).size = t := by
    exact ⟨by rw [ByteArray.extract_append_size_left, ByteArray.extract_zero_size, hp], ByteArray.extract_append_eq_right rfl ByteArray.size_append⟩
  have loop : ∀ (d x k : Nat), x + d = (numT n).size → d < k → impl_condReader_number.l0 k (x : Int) (numT n ++ t) false = some (n, t, false) := by
    intro d
    induction d with
    | zero =>
      intro x k hx hk
      obtain ⟨k, rfl⟩ : ∃ m, k = m + 1 := ⟨k - 1, by omega⟩
      obtain rfl : x = (numT n).size := by omega
      obtain ⟨e1, e2⟩ := hend
      have hz : (numT n ++ t).size = (numT n).size + t.size := ByteArray.size_append
      rw [impl_condReader_number.l0]
      by_cases h : t.size = 0
      · rw [if_neg (by omega), if_pos (by omega), if_pos (by omega), Int.toNat_natCast, e1, e2, Option.bind_some]
        rfl
      · have hb : bt (numT n ++ t) ((numT n).size : Int) < 48 := by
          rw [bt_right]
          rcases ht with q | q
          · exact absurd q h
          · exact q
        rw [if_pos (by omega), if_pos (by omega), if_neg (by omega), if_pos (by omega), Int.toNat_natCast, e1, e2, Option.bind_some]
        rfl
    | succ d ih =>
      intro x k hx hk
      obtain ⟨k, rfl⟩ : ∃ m, k = m + 1 := ⟨k - 1, by omega⟩
      have hz : (numT n ++ t).size = (numT n).size + t.size := ByteArray.size_append
      have hb := hdig x (by omega)
      rw [impl_condReader_number.l0, if_pos (by omega), if_pos (by omega), bt_left _ _ x (by omega), if_pos (by omega), if_pos (by omega), wrap_in (by omega) (by omega)]
      have := ih (x + 1) k (by omega) (by omega)
      rw [show ((x : Int) + 1) = ((x + 1 : Nat) : Int) by omega]
      exact this
  unfold impl_condReader_number.f
  rw [show (⟨#[32]⟩ : ByteArray) = sp from rfl, needP, Option.bind_some]
  exact loop (numT n).size 0 k (by omega) (by omega)
theorem find_of (op : Int) (o0 : 1 ≤ op) (o1 : op ≤ 7) (t : ByteArray) : strconv_isPowerOfTwo.f (nm op.toNat ++ t) = some (op - 1) := by
  have out : ∀ i, condFind.out (nm op.toNat ++ t) i = (condFind.name i).data.toList.isPrefixOf ((nm op.toNat).data.toList ++ t.data.toList) := by
    intro i
    unfold condFind.out
    rw [hasP, Option.getD_some, ByteArray.toList_data_append]
  unfold strconv_isPowerOfTwo.f
  congr 1
  have h : op = 1 ∨ op = 2 ∨ op = 3 ∨ op = 4 ∨ op = 5 ∨ op = 6 ∨ op = 7 := by omega
  generalize t.data.toList = L at out
  have go : ∀ m : Nat, m < 7 → op = (m : Int) + 1 → condFind.idx (condFind.out (nm op.toNat ++ t)) = op - 1 := by
    intro m hm hop
    rw [condFind.idx_hit _ m hm ?_ ?_]
    · omega
    · rw [out, hop]
      have q : m = 0 ∨ m = 1 ∨ m = 2 ∨ m = 3 ∨ m = 4 ∨ m = 5 ∨ m = 6 := by omega
      rcases q with rfl | rfl | rfl | rfl | rfl | rfl | rfl <;> rfl
    · intro j hj
      rw [out, hop]
      have q : m = 0 ∨ m = 1 ∨ m = 2 ∨ m = 3 ∨ m = 4 ∨ m = 5 ∨ m = 6 := by omega
      have qj : j = 0 ∨ j = 1 ∨ j = 2 ∨ j = 3 ∨ j = 4 ∨ j = 5 := by omega
      rcases q with rfl | rfl | rfl | rfl | rfl | rfl | rfl <;> rcases qj with rfl | rfl | rfl | rfl | rfl | rfl <;> first | omega | rfl
  exact go (op.toNat - 1) (by omega) (by omega)
theorem bt_head (b : UInt8) (t : ByteArray) (r : Array UInt8) (s : ByteArray) (h : s.data.toList = b :: r.toList) : bt (s ++ t) 0 = (b.toNat : Int) := by
  rw [bt_list, ByteArray.toList_data_append, h]
  rfl
theorem tail_sp (t : ByteArray) : okTail (sp ++ t) := .inr (by rw [bt_head 32 t #[] sp rfl]; decide)
theorem tail_shut (t : ByteArray) : okTail (⟨#[41]⟩ ++ t) := .inr (by rw [bt_head 41 t #[] ⟨#[41]⟩ rfl]; decide)
theorem paren_no (op : Int) (o0 : 1 ≤ op) (o1 : op ≤ 7) (t : ByteArray) : strings_HasPrefix.f (nm op.toNat ++ t) ⟨#[40]⟩ = some false := by
  rw [hasP, ByteArray.toList_data_append]
  generalize t.data.toList = L
  have h : op = 1 ∨ op = 2 ∨ op = 3 ∨ op = 4 ∨ op = 5 ∨ op = 6 ∨ op = 7 := by omega
  rcases h with rfl | rfl | rfl | rfl | rfl | rfl | rfl <;> rfl
theorem paren_yes (t : ByteArray) : strings_HasPrefix.f (⟨#[40]⟩ ++ t) ⟨#[40]⟩ = some true := by
  rw [hasP, ByteArray.toList_data_append]
  rfl
theorem and_or (op : Int) (h : op = 8 ∨ op = 9) (t : ByteArray) : strings_HasPrefix.f (((sp ++ nm op.toNat) ++ sp) ++ t) ⟨#[32, 97, 110, 100, 32]⟩ = some (decide (op = 8)) := by
  rw [hasP, ByteArray.toList_data_append, ByteArray.toList_data_append, ByteArray.toList_data_append]
  generalize t.data.toList = L
  rcases h with rfl | rfl <;> rfl
theorem condP (N : Nat) : ∀ (op a b : Int) (l : List S27) (t : ByteArray) (k : Nat), nodesBS l ≤ N → N ≤ 100 → nodeOk op a b l.length = true → okBS l = true → okTail t → 10 * N + 40 < k → impl_condReader_cond.f k (txt ⟨op, a, b, l⟩ ++ t) false = some (op, a, b, l, t, false) := by
  induction N using Nat.strongRecOn with
  | _ N ih =>
    intro op a b l t k hN hN2 ho hl ht hk
    obtain ⟨hn, a0, a1, b0, b1, o0, o1⟩ := nodeOk_op ho
    have am := amax_le op
    have bm := bmax_le op
    obtain ⟨k, rfl⟩ : ∃ m, k = m + 1 + 1 + 1 + 1 + 1 + 1 := ⟨k - 6, by omega⟩
    have child : ∀ x ∈ l, ∀ (t : ByteArray), okTail t → ∀ j, 10 * N + 30 < j → impl_condReader_cond.f j (txt x ++ t) false = some (x.f0, x.f1, x.f2, x.f3, t, false) := by
      intro x hx t ht j hj
      have hlt := nodesB_lt l x hx
      have hp : 0 < l.length := List.length_pos_of_mem hx
      have hok : okB x = true := by
        rw [okBS_all, List.all_eq_true] at hl
        exact hl x hx
      rw [okB_eq, Bool.and_eq_true] at hok
      rw [← txt_eta]
      exact ih (N - 1) (by omega) x.f0 x.f1 x.f2 x.f3 t j (by omega) (by omega) hok.1 hok.2 ht (by omega)
    by_cases h89 : op = 8 ∨ op = 9
    · obtain ⟨x, y, rfl⟩ : ∃ x y, l = [x, y] := two_of (by rcases h89 with rfl | rfl <;> (unfold arity at hn; simp at hn; omega))
      have hT : txt ⟨op, a, b, [x, y]⟩ ++ t = ⟨#[40]⟩ ++ (txt x ++ (((sp ++ nm op.toNat) ++ sp) ++ (txt y ++ (⟨#[41]⟩ ++ t)))) := by
        rw [txt, mkT]
        rcases h89 with rfl | rfl
        · rw [if_neg (by omega), if_pos rfl]
          simp only [ByteArray.append_assoc, txtS, List.getD_cons_zero, List.getD_cons_succ]
          rfl
        · rw [if_neg (by omega), if_neg (by omega), if_pos rfl]
          simp only [ByteArray.append_assoc, txtS, List.getD_cons_zero, List.getD_cons_succ]
          rfl
      have hA : a = 0 := by rcases h89 with rfl | rfl <;> (unfold amax at a1; simp at a1; omega)
      have hB : b = 0 := by rcases h89 with rfl | rfl <;> (unfold bmax at b1; simp at b1; omega)
      have hsz := sz_nm op.toNat
      have J : impl_condReader_both.j0 (k + 1 + 1 + 1) op (((sp ++ nm op.toNat) ++ sp) ++ (txt y ++ (⟨#[41]⟩ ++ t))) false x.f0 x.f1 x.f2 x.f3 = some (op, 0, 0, [x, y], t, false) := by
        rw [impl_condReader_both.j0, name2 op (by omega) (by omega), Option.bind_some, if_pos (by omega), if_pos (by simp only [ByteArray.size_append, sz_blank]; omega)]
        rw [show (((⟨#[32]⟩ : ByteArray) ++ nm op.toNat) ++ (⟨#[32]⟩ : ByteArray)) = ((sp ++ nm op.toNat) ++ sp) from rfl, needP, Option.bind_some]
        rw [child y (by simp) _ (tail_shut t) (k + 1 + 1) (by omega), Option.bind_some, needP, Option.bind_some]
        cases x
        cases y
        rfl
      rw [hT, impl_condReader_cond.f, if_neg (by simp), paren_yes, Option.bind_some, impl_condReader_cond.j0, if_pos rfl, if_neg (by simp), impl_condReader_both.f, needP, Option.bind_some]
      rw [child x (by simp) _ (by rw [ByteArray.append_assoc, ByteArray.append_assoc]; exact tail_sp _) (k + 1 + 1 + 1) (by omega), Option.bind_some, and_or op h89, Option.bind_some]
      rw [hA, hB]
      rcases h89 with rfl | rfl
      · rw [if_pos (by decide)]
        exact Option.bind_eq_some_iff.mpr ⟨_, J, rfl⟩
      · rw [if_neg (by decide)]
        exact Option.bind_eq_some_iff.mpr ⟨_, J, rfl⟩
    have o7 : op ≤ 7 := by omega
    have hw : wrap64 (op - 1 + 1) = op := by rw [wrap_in (by omega) (by omega)]; omega
    have enter : ∀ R : ByteArray, impl_condReader_cond.f (k + 1 + 1 + 1 + 1 + 1 + 1) (nm op.toNat ++ R) false = (if op = 7 then (impl_condReader_need.f R false ⟨#[32]⟩).bind fun bt492 => (impl_condReader_cond.f (k + 1 + 1 + 1 + 1) bt492.1 bt492.2).bind fun bt494 => impl_condReader_cond.j1 (k + 1 + 1 + 1 + 1) op bt494.2.2.2.2.1 bt494.2.2.2.2.2 op 0 0 [⟨bt494.1, bt494.2.1, bt494.2.2.1, bt494.2.2.2.1⟩] else impl_condReader_cond.j1 (k + 1 + 1 + 1 + 1) op R false op 0 0 []) := by
      intro R
      rw [impl_condReader_cond.f, if_neg (by simp), paren_no op o0 o7, Option.bind_some, impl_condReader_cond.j0, if_neg (by simp), find_of op o0 o7, Option.bind_some, hw, if_neg (by omega), name2 op o0 o1, Option.bind_some, needP, Option.bind_some]
    have two : ∀ (A : Int) (R : ByteArray) (m : List S27), impl_condReader_cond.j3 (k + 1 + 1) op R false op A 0 m = (if 2 ≤ op ∧ op ≤ 5 then (impl_condReader_number.f (k + 1) R false).bind fun bt509 => some (op, A, bt509.1, m, bt509.2.1, bt509.2.2) else some (op, A, 0, m, R, false)) := by
      intro A R m
      rw [impl_condReader_cond.j3, in2, Option.bind_some]
      by_cases hr : 2 ≤ op ∧ op ≤ 5
      · rw [decide_eq_true hr, if_pos rfl, if_pos hr]
      · rw [decide_eq_false hr, if_neg (by simp), if_neg hr]
    have one : ∀ (R : ByteArray) (m : List S27), impl_condReader_cond.j1 (k + 1 + 1 + 1 + 1) op R false op 0 0 m = (if op = 2 ∨ op = 4 ∨ op = 5 ∨ op = 6 then (impl_condReader_number.f (k + 1 + 1) R false).bind fun bt505 => impl_condReader_cond.j3 (k + 1 + 1) op bt505.2.1 bt505.2.2 op bt505.1 0 m else impl_condReader_cond.j3 (k + 1 + 1) op R false op 0 0 m) := by
      intro R m
      have J : ∀ c : Bool, c = decide (op = 2 ∨ op = 4 ∨ op = 5 ∨ op = 6) → impl_condReader_cond.j2 (k + 1 + 1 + 1) op c R false op 0 0 m = (if op = 2 ∨ op = 4 ∨ op = 5 ∨ op = 6 then (impl_condReader_number.f (k + 1 + 1) R false).bind fun bt505 => impl_condReader_cond.j3 (k + 1 + 1) op bt505.2.1 bt505.2.2 op bt505.1 0 m else impl_condReader_cond.j3 (k + 1 + 1) op R false op 0 0 m) := by
        intro c hc
        subst hc
        rw [impl_condReader_cond.j2]
        by_cases h : op = 2 ∨ op = 4 ∨ op = 5 ∨ op = 6
        · rw [decide_eq_true h, if_pos rfl, if_pos h]
        · rw [decide_eq_false h, if_neg (by simp), if_neg h]
      rw [impl_condReader_cond.j1]
      by_cases h2 : op = 2
      · rw [if_pos h2]
        exact J _ (by rw [h2]; rfl)
      rw [if_neg h2]
      by_cases h4 : op = 4
      · rw [if_pos h4]
        exact J _ (by rw [h4]; rfl)
      rw [if_neg h4]
      by_cases h5 : op = 5
      · rw [if_pos h5]
        exact J _ (by rw [h5]; rfl)
      rw [if_neg h5]
      exact J _ (by rw [Bool.eq_iff_iff]; simp [h2, h4, h5])
    rw [txt, mkT]
    by_cases h7 : op = 7
    · obtain ⟨x, rfl⟩ : ∃ x, l = [x] := one_of (by subst h7; unfold arity at hn; simp at hn; omega)
      have hA : a = 0 := by subst h7; unfold amax at a1; simp at a1; omega
      have hB : b = 0 := by subst h7; unfold bmax at b1; simp at b1; omega
      rw [if_pos h7]
      have e := enter (sp ++ (txt x ++ t))
      rw [if_pos h7, show (⟨#[32]⟩ : ByteArray) = sp from rfl, needP, Option.bind_some, child x (by simp) t ht (k + 1 + 1 + 1 + 1) (by omega), Option.bind_some, one, if_neg (by omega), two, if_neg (by omega)] at e
      subst h7
      rw [hA, hB]
      cases x
      simp only [ByteArray.append_assoc, txtS, List.getD_cons_zero]
      exact e
    have hl0 : l = [] := List.eq_nil_of_length_eq_zero (by unfold arity at hn; rw [if_neg h7, if_neg (by omega), if_neg (by omega), if_pos (by omega)] at hn; omega)
    subst hl0
    rw [if_neg h7, if_neg (by omega), if_neg (by omega)]
    by_cases h1 : op = 1
    · rw [if_pos h1]
      have hA : a = 0 := by subst h1; unfold amax at a1; simp at a1; omega
      have hB : b = 0 := by subst h1; unfold bmax at b1; simp at b1; omega
      have e := enter t
      rw [if_neg h7, one, if_neg (by omega), two, if_neg (by omega)] at e
      subst h1
      rw [hA, hB]
      exact e
    rw [if_neg h1]
    by_cases h3 : op = 3
    · rw [if_pos h3]
      have hA : a = 0 := by subst h3; unfold amax at a1; simp at a1; omega
      have e := enter (sp ++ (numT b ++ t))
      rw [if_neg h7, one, if_neg (by omega), two, if_pos (by omega), numberP b b0 (by omega) t ht (k + 1) (by omega), Option.bind_some] at e
      subst h3
      rw [hA]
      simp only [ByteArray.append_assoc]
      exact e
    rw [if_neg h3]
    by_cases h6 : op = 6
    · rw [if_pos h6]
      have hB : b = 0 := by subst h6; unfold bmax at b1; simp at b1; omega
      have e := enter (sp ++ (numT a ++ t))
      rw [if_neg h7, one, if_pos (by omega), numberP a a0 (by omega) t ht (k + 1 + 1) (by omega), Option.bind_some, two, if_neg (by omega)] at e
      subst h6
      rw [hB]
      simp only [ByteArray.append_assoc]
      exact e
    rw [if_neg h6]
    have e := enter (sp ++ (numT a ++ (sp ++ (numT b ++ t))))
    rw [if_neg h7, one, if_pos (by omega), numberP a a0 (by omega) _ (tail_sp _) (k + 1 + 1) (by omega), Option.bind_some, two, if_pos (by omega), numberP b b0 (by omega) t ht (k + 1) (by omega), Option.bind_some] at e
    simp only [ByteArray.append_assoc]
    exact e
theorem and255 (x : Int) : 0 ≤ Go.bits .and .i64 x 255 ∧ Go.bits .and .i64 x 255 ≤ 255 := by
  unfold Go.bits
  simp only
  have h : (BitVec.ofInt IntKind.i64.bits x &&& BitVec.ofInt IntKind.i64.bits 255).toNat ≤ 255 := by
    rw [BitVec.toNat_and]
    exact Nat.le_trans Nat.and_le_right (by decide)
  rw [IntKind.wrap_i64]
  omega
/-- What a draw gives: something, and the place is still one of the list. -/
def Drawn {α : Type} (l : List Int) (r : Option (α × Int × Int)) (Q : α → Prop) : Prop := ∃ v i h, r = some (v, i, h) ∧ Q v ∧ 0 ≤ i ∧ i ≤ (l.length : Int)
theorem dByte (l : List Int) (hl : l.length ≤ 1048576) (i h : Int) (h0 : 0 ≤ i) (h1 : i ≤ (l.length : Int)) : Drawn l (spec_l1Byte.f l i h) fun v => 0 ≤ v ∧ v ≤ 255 := by
  unfold spec_l1Byte.f
  by_cases c : i < (l.length : Int)
  · rw [if_pos c, if_pos h0, wrap_in (x := i + 1) (by omega) (by omega)]
    exact ⟨_, _, _, rfl, and255 _, by omega, by omega⟩
  · rw [if_neg c]
    exact ⟨_, _, _, rfl, and255 _, by omega, by omega⟩
theorem dBelow (l : List Int) (hl : l.length ≤ 1048576) (i h : Int) (h0 : 0 ≤ i) (h1 : i ≤ (l.length : Int)) (n : Int) (hn : 0 < n) : Drawn l (spec_l1Below.f l i h n) fun v => 0 ≤ v ∧ v < n := by
  unfold spec_l1Below.f
  rw [if_neg (by omega)]
  by_cases c : n ≤ 256
  · rw [if_pos c]
    obtain ⟨v, i1, s1, e, ⟨g0, _⟩, p0, p1⟩ := dByte l hl i h h0 h1
    rw [e, Option.bind_some, if_neg (by omega)]
    exact ⟨_, _, _, rfl, ⟨Int.tmod_nonneg _ g0, Int.tmod_lt_of_pos _ hn⟩, p0, p1⟩
  · rw [if_neg c]
    obtain ⟨v, i1, s1, e, ⟨g0, g1⟩, p0, p1⟩ := dByte l hl i h h0 h1
    obtain ⟨v2, i2, s2, e2, ⟨g2, g3⟩, p2, p3⟩ := dByte l hl i1 s1 p0 p1
    obtain ⟨v3, i3, s3, e3, ⟨g4, g5⟩, p4, p5⟩ := dByte l hl i2 s2 p2 p3
    simp only [e, e2, e3, Option.bind_some]
    rw [if_neg (by omega), wrap_in (x := v * 65536) (by omega) (by omega), wrap_in (x := v2 * 256) (by omega) (by omega), wrap_in (x := v * 65536 + v2 * 256) (by omega) (by omega), wrap_in (by omega) (by omega)]
    exact ⟨_, _, _, rfl, ⟨Int.tmod_nonneg _ (by omega), Int.tmod_lt_of_pos _ hn⟩, p4, p5⟩
theorem dOnce (l : List Int) (hl : l.length ≤ 1048576) (i h : Int) (h0 : 0 ≤ i) (h1 : i ≤ (l.length : Int)) (n : Int) (hn : 0 < n) : Drawn l (spec_l1Once.f l i h n) fun _ => True := by
  unfold spec_l1Once.f
  obtain ⟨v, i1, s1, e, _, p0, p1⟩ := dBelow l hl i h h0 h1 n hn
  rw [e, Option.bind_some]
  exact ⟨_, _, _, rfl, trivial, p0, p1⟩
theorem dInt (l : List Int) (hl : l.length ≤ 1048576) (i h : Int) (h0 : 0 ≤ i) (h1 : i ≤ (l.length : Int)) (c : List Int) (hc : 0 < c.length) : Drawn l (spec_l1Int.f l i h c) fun v => v ∈ c := by
  unfold spec_l1Int.f
  obtain ⟨v, i1, s1, e, ⟨g0, g1⟩, p0, p1⟩ := dBelow l hl i h h0 h1 (c.length : Int) (by omega)
  rw [e, Option.bind_some, if_pos g0, if_pos g1]
  refine ⟨_, _, _, rfl, ?_, p0, p1⟩
  unfold rd
  exact getD_mem c _ 0 (by omega)
def seedOf (l : List Int) : Nat → Int
  | 0 => wrap64 (193017 + (l.length : Int))
  | i + 1 => Go.bits .and .i64 (wrap64 ((wrap64 ((wrap64 (seedOf l i * 137)) + (wrap64 (l.getD i 0)))) + 11)) 1073741823
theorem new1 (l : List Int) (hl : l.length ≤ 1048576) (k : Nat) (hk : 1048577 < k) : spec_l1New.f k l = some (l, 0, seedOf l (min l.length 4000)) := by
  unfold spec_l1New.f
  refine run (fun k s i => spec_l1New.l0 k l s i) (seedOf l) (min l.length 4000) 0 _ ?_ ?_ k (by omega)
  · intro k i _ hi
    simp only [spec_l1New.l0, rd_nat]
    rw [if_pos (by omega), if_pos (by omega), if_pos (by omega), wrap_succ hi (by omega)]
    rfl
  · intro k _
    simp only [spec_l1New.l0]
    by_cases c : l.length < 4000
    · rw [Nat.min_eq_left (by omega), if_neg (by omega)]
    · rw [Nat.min_eq_right (by omega)]
      split
      · rw [if_neg (by omega)]
      · rfl
theorem nodesBS_append (l m : List S27) : nodesBS (l ++ m) = nodesBS l + nodesBS m := by
  rw [nodesBS_sum, nodesBS_sum, nodesBS_sum, List.map_append, List.sum_append]
theorem nodesBS_one (x : S27) : nodesBS [x] = 1 + nodesBS x.f3 := by
  rw [nodesBS, nodesBS, nodesB_eq, Nat.add_zero]
theorem nodesBS_two (x y : S27) : nodesBS [x, y] = 1 + nodesBS x.f3 + (1 + nodesBS y.f3) := by
  rw [nodesBS, nodesBS_one, nodesB_eq]
/-- A drawn node whose parts are few. -/
def DrawnC (l : List Int) (B : Nat) (r : Option (Int × Int × Int × List S27 × Int × Int)) : Prop := ∃ a b c m i h, r = some (a, b, c, m, i, h) ∧ nodesBS m ≤ B ∧ 0 ≤ i ∧ i ≤ (l.length : Int)
theorem nodes_nil : nodesBS ([] : List S27) = 0 := by rw [nodesBS]
theorem dLeaf (l : List Int) (hl : l.length ≤ 1048576) (B : Nat) (i h : Int) (h0 : 0 ≤ i) (h1 : i ≤ (l.length : Int)) (k : Nat) (hk : 1 < k) : DrawnC l B (spec_l15Leaf.f k l i h) := by
  have J : ∀ (x3 x8 : Int) (t : Bool) (i h : Int), 0 ≤ i → i ≤ (l.length : Int) → DrawnC l B (spec_l15Leaf.j0 k x3 x8 t l i h) := by
    intro x3 x8 t i h h0 h1
    obtain ⟨k, rfl⟩ : ∃ m, k = m + 1 := ⟨k - 1, by omega⟩
    simp only [spec_l15Leaf.j0]
    split
    · obtain ⟨v, i, h, e, _, h0, h1⟩ := dBelow l hl i h h0 h1 3 (by omega)
      simp only [e, Option.bind_some]
      exact ⟨_, _, _, _, _, _, rfl, by rw [nodes_nil]; omega, h0, h1⟩
    split
    · exact ⟨_, _, _, _, _, _, rfl, by rw [nodes_nil]; omega, h0, h1⟩
    split
    · obtain ⟨v, i, h, e, _, h0, h1⟩ := dBelow l hl i h h0 h1 3 (by omega)
      simp only [e, Option.bind_some]
      exact ⟨_, _, _, _, _, _, rfl, by rw [nodes_nil]; omega, h0, h1⟩
    split
    · obtain ⟨v, i, h, e, _, h0, h1⟩ := dBelow l hl i h h0 h1 2 (by omega)
      simp only [e, Option.bind_some]
      exact ⟨_, _, _, _, _, _, rfl, by rw [nodes_nil]; omega, h0, h1⟩
    · obtain ⟨v, i, h, e, _, h0, h1⟩ := dInt l hl i h h0 h1 [5, 15, 25] (by simp)
      simp only [e, Option.bind_some]
      exact ⟨_, _, _, _, _, _, rfl, by rw [nodes_nil]; omega, h0, h1⟩
  unfold spec_l15Leaf.f
  obtain ⟨v, i, h, e, _, h0, h1⟩ := dInt l hl i h h0 h1 [3, 10, 20] (by simp)
  simp only [e, Option.bind_some]
  clear e
  obtain ⟨v2, i, h, e, _, h0, h1⟩ := dBelow l hl i h h0 h1 7 (by omega)
  simp only [e, Option.bind_some]
  clear e
  split
  · exact ⟨_, _, _, _, _, _, rfl, by rw [nodes_nil]; omega, h0, h1⟩
  split
  · exact J _ _ _ i h h0 h1
  · exact J _ _ _ i h h0 h1
def bnd : Nat → Nat
  | 0 => 0
  | d + 1 => 2 + 2 * bnd d
theorem dCond (l : List Int) (hl : l.length ≤ 1048576) (d : Nat) : ∀ (k : Nat) (i h : Int), d ≤ 2 → 0 ≤ i → i ≤ (l.length : Int) → 100 + 10 * d < k → DrawnC l (bnd d) (spec_l15Cond.f k l i h (d : Int)) := by
  induction d with
  | zero =>
    intro k i h _ h0 h1 hk
    obtain ⟨k, rfl⟩ : ∃ m, k = m + 1 + 1 := ⟨k - 2, by omega⟩
    rw [spec_l15Cond.f, if_pos (by omega)]
    rw [spec_l15Cond.j0, if_pos rfl]
    obtain ⟨a, b, c, m, i, h, e, g, h0, h1⟩ := dLeaf l hl 0 i h h0 h1 k (by omega)
    simp only [e, Option.bind_some]
    exact ⟨_, _, _, _, _, _, rfl, g, h0, h1⟩
  | succ d ih =>
    intro k i h hd h0 h1 hk
    obtain ⟨k, rfl⟩ : ∃ m, k = m + 1 + 1 + 1 := ⟨k - 3, by omega⟩
    have hb : bnd d ≤ 2 := by
      have : d = 0 ∨ d = 1 := by omega
      rcases this with rfl | rfl
      · exact Nat.zero_le _
      · exact Nat.le_refl _
    have hw : wrap64 (((d + 1 : Nat) : Int) - 1) = (d : Int) := by
      rw [wrap_in (by omega) (by omega)]
      omega
    have hbd : bnd (d + 1) = 2 + 2 * bnd d := rfl
    have J1 : ∀ (t : Bool) (i h : Int), 0 ≤ i → i ≤ (l.length : Int) → DrawnC l (bnd (d + 1)) (spec_l15Cond.j1 (k + 1) ((d + 1 : Nat) : Int) t l i h) := by
      intro t i h h0 h1
      rw [spec_l15Cond.j1, hw]
      split
      · obtain ⟨a, b, c, m, i, h, e, g, h0, h1⟩ := ih k i h (by omega) h0 h1 (by omega)
        simp only [e, Option.bind_some]
        clear e
        obtain ⟨a', b', c', m', i, h, e, g', h0, h1⟩ := ih k i h (by omega) h0 h1 (by omega)
        simp only [e, Option.bind_some, spec_CondAnd.f, copy1 2 a b c m k (by omega) (by omega) (by omega), copy1 2 a' b' c' m' k (by omega) (by omega) (by omega)]
        exact ⟨_, _, _, _, _, _, rfl, by rw [nodesBS_two, hbd]; simp only; omega, h0, h1⟩
      · obtain ⟨a, b, c, m, i, h, e, g, h0, h1⟩ := ih k i h (by omega) h0 h1 (by omega)
        simp only [e, Option.bind_some]
        clear e
        obtain ⟨a', b', c', m', i, h, e, g', h0, h1⟩ := ih k i h (by omega) h0 h1 (by omega)
        simp only [e, Option.bind_some, spec_CondOr.f, copy1 2 a b c m k (by omega) (by omega) (by omega), copy1 2 a' b' c' m' k (by omega) (by omega) (by omega)]
        exact ⟨_, _, _, _, _, _, rfl, by rw [nodesBS_two, hbd]; simp only; omega, h0, h1⟩
    have J0 : ∀ (t : Bool) (i h : Int), 0 ≤ i → i ≤ (l.length : Int) → DrawnC l (bnd (d + 1)) (spec_l15Cond.j0 (k + 1 + 1) ((d + 1 : Nat) : Int) t l i h) := by
      intro t i h h0 h1
      rw [spec_l15Cond.j0]
      split
      · obtain ⟨a, b, c, m, i, h, e, g, h0, h1⟩ := dLeaf l hl (bnd (d + 1)) i h h0 h1 (k + 1) (by omega)
        simp only [e, Option.bind_some]
        exact ⟨_, _, _, _, _, _, rfl, g, h0, h1⟩
      · obtain ⟨v, i, h, e, _, h0, h1⟩ := dBelow l hl i h h0 h1 5 (by omega)
        simp only [e, Option.bind_some]
        clear e
        split
        · obtain ⟨a, b, c, m, i, h, e, g, h0, h1⟩ := ih (k + 1) i h (by omega) h0 h1 (by omega)
          rw [hw]
          simp only [e, Option.bind_some, spec_CondNot.f, copy1 2 a b c m (k + 1) (by omega) (by omega) (by omega)]
          exact ⟨_, _, _, _, _, _, rfl, by rw [nodesBS_one, hbd]; simp only; omega, h0, h1⟩
        split
        · exact J1 _ i h h0 h1
        · exact J1 _ i h h0 h1
    rw [spec_l15Cond.f]
    split
    · exact J0 true i h h0 h1
    · obtain ⟨v, i, h, e, _, h0, h1⟩ := dOnce l hl i h h0 h1 3 (by omega)
      simp only [e, Option.bind_some]
      exact J0 _ i h h0 h1
theorem dAnyC (l : List Int) (hl : l.length ≤ 1048576) (i h : Int) (h0 : 0 ≤ i) (h1 : i ≤ (l.length : Int)) (k : Nat) (hk : 200 < k) : DrawnC l 7 (spec_l15Any.f k l i h) := by
  unfold spec_l15Any.f
  obtain ⟨a, b, c, m, i, h, e, g, h0, h1⟩ := dCond l hl 2 k i h (by omega) h0 h1 (by omega)
  have g' : nodesBS m ≤ 6 := g
  simp only [show ((2 : Nat) : Int) = 2 from rfl] at e
  simp only [e, Option.bind_some]
  clear e g
  obtain ⟨v, i, h, e, _, h0, h1⟩ := dBelow l hl i h h0 h1 8 (by omega)
  simp only [e, Option.bind_some]
  clear e
  split
  · obtain ⟨v, i, h, e, _, h0, h1⟩ := dBelow l hl i h h0 h1 11 (by omega)
    simp only [e, Option.bind_some]
    exact ⟨_, _, _, _, _, _, rfl, by omega, h0, h1⟩
  split
  · obtain ⟨v, i, h, e, _, h0, h1⟩ := dInt l hl i h h0 h1 [(-1), 0, 3, 4, 5, 6, 10000, 10001] (by simp)
    simp only [e, Option.bind_some]
    exact ⟨_, _, _, _, _, _, rfl, by omega, h0, h1⟩
  split
  · obtain ⟨v, i, h, e, _, h0, h1⟩ := dInt l hl i h h0 h1 [(-1), 0, 10000, 10001] (by simp)
    simp only [e, Option.bind_some]
    exact ⟨_, _, _, _, _, _, rfl, by omega, h0, h1⟩
  split
  · obtain ⟨a', b', c', m', i, h, e, g2, h0, h1⟩ := dLeaf l hl 0 i h h0 h1 k (by omega)
    have hlen := nodesBS_below m
    simp only [e, Option.bind_some]
    rw [if_pos (by omega)]
    exact ⟨_, _, _, _, _, _, rfl, by rw [nodesBS_append, nodesBS_one]; simp only; omega, h0, h1⟩
  · exact ⟨_, _, _, _, _, _, rfl, by omega, h0, h1⟩
def texts : List ByteArray := [(⟨#[]⟩ : ByteArray), (⟨#[116, 114, 117, 101, 32]⟩ : ByteArray), (⟨#[114, 111, 108, 101, 32, 49]⟩ : ByteArray), (⟨#[114, 111, 108, 101, 32, 49, 32, 49, 48, 48, 48, 49]⟩ : ByteArray), (⟨#[114, 111, 108, 101, 32, 54, 32, 49]⟩ : ByteArray), (⟨#[111, 119, 110, 115, 32, 51]⟩ : ByteArray), (⟨#[98, 101, 102, 111, 114, 101, 32, 53]⟩ : ByteArray), (⟨#[110, 111, 116]⟩ : ByteArray), (⟨#[110, 111, 116, 32, 110, 111, 116, 32, 116, 114, 117, 101]⟩ : ByteArray), (⟨#[40, 116, 114, 117, 101, 32, 97, 110, 100, 32, 116, 114, 117, 101, 41]⟩ : ByteArray), (⟨#[40, 116, 114, 117, 101, 32, 111, 114, 32, 111, 119, 110, 115, 32, 51]⟩ : ByteArray), (⟨#[40, 116, 114, 117, 101, 32, 32, 111, 114, 32, 116, 114, 117, 101, 41]⟩ : ByteArray), (⟨#[40, 40, 116, 114, 117, 101, 32, 111, 114, 32, 116, 114, 117, 101, 41, 32, 97, 110, 100, 32, 110, 111, 116, 32, 98, 101, 102, 111, 114, 101, 32, 53, 41]⟩ : ByteArray), (⟨#[104, 101, 97, 108, 116, 104, 32, 48, 51, 32, 49]⟩ : ByteArray), (⟨#[97, 110, 100, 32, 116, 114, 117, 101, 32, 116, 114, 117, 101]⟩ : ByteArray), (⟨#[40, 40, 40, 40, 40, 40, 40, 40, 40, 40, 40, 40, 40, 40, 40, 40, 40, 40, 40, 40]⟩ : ByteArray)]
/-- What a text that is drawn must answer, reckoned. -/
def good (K : Nat) (s : ByteArray) : Bool :=
  match impl_ParseCond.f K s with
  | some (a, b, c, l, ok) => !ok || ((match impl_FormatCond.f K a b c l with | some t => decide (t.data.toList = s.data.toList) | none => false) && (match impl_IsCond.f K a b c l with | some q => q | none => false))
  | none => false
set_option maxRecDepth 100000 in
theorem fixed : texts.all (good 5000000) = true := by decide +kernel
/-- The text is told back, or refused. -/
def Read (k : Nat) (s : ByteArray) : Prop := ∃ a b c l ok, impl_ParseCond.f k s = some (a, b, c, l, ok) ∧ (ok = true → ∃ t, impl_FormatCond.f k a b c l = some t ∧ t.toList = s.toList ∧ impl_IsCond.f k a b c l = some true)
theorem read_fixed (s : ByteArray) (h : s ∈ texts) : Read 5000000 s := by
  have g := List.all_eq_true.1 fixed s h
  unfold good at g
  generalize hK : (5000000 : Nat) = K at g ⊢
  cases e : impl_ParseCond.f K s with
  | none => rw [e] at g; exact absurd g (by simp)
  | some p =>
    obtain ⟨a, b, c, l, ok⟩ := p
    rw [e] at g
    refine ⟨a, b, c, l, ok, e, fun ho => ?_⟩
    subst ho
    simp only [Bool.not_true, Bool.false_or, Bool.and_eq_true] at g
    obtain ⟨g1, g2⟩ := g
    cases e1 : impl_FormatCond.f K a b c l with
    | none => rw [e1] at g1; exact absurd g1 (by simp)
    | some t =>
      rw [e1] at g1
      cases e2 : impl_IsCond.f K a b c l with
      | none => rw [e2] at g2; exact absurd g2 (by simp)
      | some q =>
        rw [e2] at g2
        refine ⟨t, rfl, ?_, by rw [show q = true from g2]⟩
        rw [ByteArray.toList_eq, ByteArray.toList_eq]
        exact of_decide_eq_true g1
theorem okC_of {a b c : Int} {l : List S27} (h : okC a b c l = true) : nodesBS l ≤ 14 ∧ nodeOk a b c l.length = true ∧ okBS l = true := by
  unfold okC at h
  simp only [Bool.and_eq_true, decide_eq_true_eq] at h
  exact ⟨by omega, h.2.1, h.2.2⟩
/-- What the text of a condition is parsed to. -/
theorem parse_txt (a b c : Int) (l : List S27) (h : okC a b c l = true) (k : Nat) (hk : 1000 < k) : impl_ParseCond.f k (txt ⟨a, b, c, l⟩) = some (if (txt ⟨a, b, c, l⟩).size ≤ 400 then (a, b, c, l, true) else (0, 0, 0, [], false)) := by
  obtain ⟨hn, ho, hl⟩ := okC_of h
  unfold impl_ParseCond.f
  by_cases hs : (txt ⟨a, b, c, l⟩).size ≤ 400
  · have e := condP (nodesBS l) a b c l ByteArray.empty k (Nat.le_refl _) (by omega) ho hl (.inl rfl) (by omega)
    rw [ByteArray.append_empty] at e
    have ef := format2 a b c l k (by omega) (by omega)
    unfold fmtT at ef
    rw [if_pos h] at ef
    rw [if_neg (by omega), if_pos hs, strconv_lower.f, Option.bind_some]
    simp only [e, Option.bind_some]
    rw [if_neg (by simp), if_pos ByteArray.toList_empty, ef, Option.bind_some, if_pos rfl]
  · rw [if_pos (by omega), if_neg hs]
theorem txt_pos (a b c : Int) (l : List S27) (h : nodeOk a b c l.length = true) : 0 < (txt ⟨a, b, c, l⟩).size := by
  obtain ⟨_, _, _, _, _, o0, o1⟩ := nodeOk_op h
  have hnm : ∀ op : Int, 1 ≤ op → op ≤ 9 → 0 < (nm op.toNat).size := by
    intro op h0 h1
    have q : op = 1 ∨ op = 2 ∨ op = 3 ∨ op = 4 ∨ op = 5 ∨ op = 6 ∨ op = 7 ∨ op = 8 ∨ op = 9 := by omega
    rcases q with rfl | rfl | rfl | rfl | rfl | rfl | rfl | rfl | rfl <;> decide
  have n7 : 0 < (nm 7).size := by decide
  have n1 : 0 < (nm 1).size := by decide
  have n3 : 0 < (nm 3).size := by decide
  have n6 : 0 < (nm 6).size := by decide
  have no := hnm a o0 o1
  rw [txt, mkT]
  repeat' split
  all_goals first | omega | (simp only [ByteArray.size_append, sz_open, sz_shut]; omega)
theorem toList_ne (s : ByteArray) (h : 0 < s.size) : s.toList ≠ [] := by
  rw [ByteArray.toList_eq]
  intro q
  have : s.data.toList.length = s.size := Array.length_toList
  rw [q] at this
  simp at this
  omega
theorem read_fmt (a b c : Int) (l : List S27) (hn : nodesBS l ≤ 20) : Read 5000000 (fmtT a b c l) := by
  by_cases h : okC a b c l = true
  · have hp := parse_txt a b c l h 5000000 (by omega)
    have hi := isCond2 a b c l 5000000 (by omega) (by omega)
    have hf := format2 a b c l 5000000 (by omega) (by omega)
    generalize (5000000 : Nat) = K at hp hi hf ⊢
    unfold fmtT at hf ⊢
    rw [if_pos h] at hf ⊢
    by_cases hs : (txt ⟨a, b, c, l⟩).size ≤ 400
    · rw [if_pos hs] at hp
      exact ⟨a, b, c, l, true, hp, fun _ => ⟨_, hf, rfl, by rw [hi, h]⟩⟩
    · rw [if_neg hs] at hp
      exact ⟨0, 0, 0, [], false, hp, fun q => by cases q⟩
  · unfold fmtT
    rw [if_neg h]
    exact read_fixed _ (by unfold texts; exact List.mem_cons_self)
theorem dParse (l : List Int) (hl : l.length ≤ 1048576) (k : Nat) (hk : 1048577 < k) : ∃ s, spec_DrawParseCond.f k l = some s ∧ (s ∈ texts ∨ ∃ a b c m, s = fmtT a b c m ∧ nodesBS m ≤ 20) := by
  unfold spec_DrawParseCond.f
  rw [new1 l hl k hk, Option.bind_some]
  obtain ⟨v, i, h, e, _, h0, h1⟩ := dOnce l hl 0 (seedOf l (min l.length 4000)) (by omega) (by omega) 3 (by omega)
  simp only [e, Option.bind_some]
  clear e
  by_cases hv : v = true
  · rw [if_pos hv]
    obtain ⟨v2, i2, s2, e, hv2, p0, p1⟩ := dBelow l hl i h h0 h1 16 (by omega)
    have hl16 : texts.length = 16 := rfl
    have hstr : (spec_l1Str.f l i h texts).bind (fun bt382 => some bt382.1) = some (rdOf ByteArray.empty texts v2) := by
      unfold spec_l1Str.f
      rw [hl16, show ((16 : Nat) : Int) = 16 from rfl, e, Option.bind_some, if_pos hv2.1, if_pos hv2.2, Option.bind_some]
    refine ⟨rdOf ByteArray.empty texts v2, hstr, .inl ?_⟩
    unfold rdOf
    exact getD_mem texts v2.toNat _ (by have := hv2.1; have := hv2.2; omega)
  · rw [if_neg hv]
    obtain ⟨a, b, c, m, i, h, e, g, h0, h1⟩ := dAnyC l hl i h h0 h1 k (by omega)
    simp only [e, Option.bind_some, format1 a b c m k (by omega) (by omega)]
    exact ⟨_, rfl, .inr ⟨a, b, c, m, rfl, by omega⟩⟩
theorem grow (d : Nat) : ∀ (a b c : Int) (m : List S27) (k : Nat), nodesBS m ≤ 13 → 13 ≤ nodesBS m + d → 200 + d < k → ∃ a' b' c' m', spec_DrawIsCond.l0 k a b c m = some (a', b', c', m') ∧ nodesBS m' ≤ 20 := by
  induction d with
  | zero =>
    intro a b c m k h0 h1 hk
    obtain ⟨k, rfl⟩ : ∃ n, k = n + 1 := ⟨k - 1, by omega⟩
    rw [spec_DrawIsCond.l0, size1 20 a b c m k (by omega) (by omega) (by omega), Option.bind_some, if_neg (by omega), spec_CondNot.f, copy1 20 a b c m k (by omega) (by omega) (by omega)]
    exact ⟨_, _, _, _, rfl, by rw [nodesBS_one]; simp only; omega⟩
  | succ d ih =>
    intro a b c m k h0 h1 hk
    obtain ⟨k, rfl⟩ : ∃ n, k = n + 1 := ⟨k - 1, by omega⟩
    rw [spec_DrawIsCond.l0, size1 20 a b c m k (by omega) (by omega) (by omega), Option.bind_some, spec_CondNot.f, copy1 20 a b c m k (by omega) (by omega) (by omega)]
    by_cases h : 1 + (nodesBS m : Int) < 14
    · rw [if_pos h]
      exact ih 7 0 0 [⟨a, b, c, m⟩] k (by rw [nodesBS_one]; simp only; omega) (by rw [nodesBS_one]; simp only; omega) (by omega)
    · rw [if_neg h]
      exact ⟨_, _, _, _, rfl, by rw [nodesBS_one]; simp only; omega⟩
theorem dIs (l : List Int) (hl : l.length ≤ 1048576) (k : Nat) (hk : 1048577 < k) : ∃ a b c m, spec_DrawFormatCond.f k l = some (a, b, c, m) ∧ nodesBS m ≤ 20 := by
  unfold spec_DrawFormatCond.f spec_DrawIsCond.f
  rw [new1 l hl k hk, Option.bind_some]
  obtain ⟨v, i, h, e, _, h0, h1⟩ := dOnce l hl 0 (seedOf l (min l.length 4000)) (by omega) (by omega) 8 (by omega)
  simp only [e, Option.bind_some]
  clear e
  by_cases hv : v = true
  · rw [if_pos hv]
    obtain ⟨a, b, c, m, i, h, e, g, h0, h1⟩ := dCond l hl 2 k i h (by omega) h0 h1 (by omega)
    have g' : nodesBS m ≤ 6 := g
    simp only [show ((2 : Nat) : Int) = 2 from rfl] at e
    simp only [e, Option.bind_some]
    obtain ⟨a', b', c', m', e, g⟩ := grow 13 a b c m k (by omega) (by omega) (by omega)
    simp only [e, Option.bind_some]
    exact ⟨_, _, _, _, rfl, g⟩
  · rw [if_neg hv]
    obtain ⟨a, b, c, m, i, h, e, g, h0, h1⟩ := dAnyC l hl i h h0 h1 k (by omega)
    simp only [e, Option.bind_some]
    exact ⟨_, _, _, _, rfl, by omega⟩
/-- The end: what the second text answers. -/
theorem ending (a b c : Int) (m : List S27) (hn : nodesBS m ≤ 20) (k : Nat) (hk : 1000 < k) (q : Bool) (hq : q = false) (f : Bool) (a' b' c' : Int) (m' : List S27) (hf : okC a b c m = true → (txt ⟨a, b, c, m⟩).size ≤ 400 → f = true ∧ a' = a ∧ b' = b ∧ c' = c ∧ m' = m) (hf0 : okC a b c m ≠ true → f = false) :
    laws_FnTexts.j0 k (fmtT a b c m) f q a b c m a' b' c' m' = some true := by
  subst hq
  obtain ⟨k, rfl⟩ : ∃ n, k = n + 1 := ⟨k - 1, by omega⟩
  rw [laws_FnTexts.j0, if_neg (by simp)]
  by_cases h : okC a b c m = true
  · obtain ⟨_, ho, _⟩ := okC_of h
    have hp := toList_ne _ (txt_pos a b c m ho)
    unfold fmtT
    rw [if_pos h, if_neg hp]
    by_cases hs : (txt ⟨a, b, c, m⟩).size ≤ 400
    · obtain ⟨rfl, rfl, rfl, rfl, rfl⟩ := hf h hs
      rw [if_neg (by omega), if_pos rfl, equal2C 20 _ _ _ _ _ _ _ _ k hn (by omega) (by omega), Option.bind_some]
      exact congrArg some ((sameC_iff _ _).2 rfl)
    · rw [if_pos (by omega)]
  · unfold fmtT
    rw [if_neg h, if_pos (show (⟨#[]⟩ : ByteArray).toList = [] from ByteArray.toList_empty), hf0 h, if_neg (by simp), isCond1 a b c m k (by omega) (by omega), Option.bind_some, Bool.eq_false_iff.2 h]
    rfl
set_option maxRecDepth 100000 in
theorem parse_none : (match impl_ParseCond.f 5000000 ⟨#[]⟩ with | some (_, _, _, _, f) => !f | none => false) = true := by decide +kernel
theorem parse_fmt (a b c : Int) (m : List S27) : ∃ f a' b' c' m', impl_ParseCond.f 5000000 (fmtT a b c m) = some (a', b', c', m', f) ∧ (okC a b c m = true → (txt ⟨a, b, c, m⟩).size ≤ 400 → f = true ∧ a' = a ∧ b' = b ∧ c' = c ∧ m' = m) ∧ (okC a b c m ≠ true → f = false) := by
  by_cases h : okC a b c m = true
  · have hp := parse_txt a b c m h 5000000 (by omega)
    have e : fmtT a b c m = txt ⟨a, b, c, m⟩ := by unfold fmtT; rw [if_pos h]
    generalize (5000000 : Nat) = K at hp ⊢
    rw [e, hp]
    by_cases hz : (txt ⟨a, b, c, m⟩).size ≤ 400
    · rw [if_pos hz]
      exact ⟨true, a, b, c, m, rfl, fun _ _ => ⟨rfl, rfl, rfl, rfl, rfl⟩, fun q => absurd h q⟩
    · rw [if_neg hz]
      exact ⟨false, 0, 0, 0, [], rfl, fun _ q => absurd q hz, fun q => absurd h q⟩
  · have e : fmtT a b c m = ⟨#[]⟩ := by unfold fmtT; rw [if_neg h]
    have g := parse_none
    rw [e]
    generalize (5000000 : Nat) = K at g ⊢
    cases e2 : impl_ParseCond.f K ⟨#[]⟩ with
    | none => rw [e2] at g; exact absurd g (by simp)
    | some p =>
      obtain ⟨a', b', c', m', f⟩ := p
      rw [e2] at g
      exact ⟨f, a', b', c', m', rfl, fun q => absurd q h, fun _ => by simpa using g⟩
theorem FnTexts : laws_FnTexts.Pure := by
  intro l hw
  refine ⟨5000000, ?_⟩
  by_cases hl : (l.length : Int) > 1048576
  · generalize (5000000 : Nat) = K
    unfold laws_FnTexts.f laws_big.f
    rw [Option.bind_some, if_pos (decide_eq_true hl)]
  · obtain ⟨s, es, hs⟩ := dParse l (by omega) 5000000 (by omega)
    obtain ⟨a, b, c, m, ey, hm⟩ := dIs l (by omega) 5000000 (by omega)
    have R1 : Read 5000000 s := by
      rcases hs with h | ⟨a, b, c, m, h, h2⟩
      · exact read_fixed s h
      · rw [h]
        exact read_fmt a b c m h2
    obtain ⟨p, q, r, n, ok, e1, h1⟩ := R1
    have hf := format2 a b c m 5000000 (by omega) (by omega)
    have hi := isCond2 a b c m 5000000 (by omega) (by omega)
    obtain ⟨f, a', b', c', m', e2, h2, h3⟩ := parse_fmt a b c m
    have q0 : (((fmtT a b c m).toList != ([] : List UInt8)) != okC a b c m) = false := by
      unfold fmtT
      by_cases h : okC a b c m = true
      · obtain ⟨_, ho, _⟩ := okC_of h
        have hp := toList_ne _ (txt_pos a b c m ho)
        rw [if_pos h, h, bne_iff_ne.2 hp]
        rfl
      · rw [if_neg h, Bool.eq_false_iff.2 h, show (⟨#[]⟩ : ByteArray).toList = [] from ByteArray.toList_empty]
        rfl
    have J := ending a b c m hm 5000000 (by omega) _ q0 f a' b' c' m' h2 h3
    generalize (5000000 : Nat) = K at es ey e1 h1 hf hi e2 J ⊢
    unfold laws_FnTexts.f laws_big.f
    rw [Option.bind_some, if_neg (by simpa using hl), es, Option.bind_some, e1, Option.bind_some, ey, Option.bind_some]
    dsimp only
    rw [hf, Option.bind_some, e2, Option.bind_some]
    dsimp only
    cases ok with
    | true =>
      obtain ⟨t, g1, g2, g3⟩ := h1 rfl
      rw [if_pos rfl, g1, Option.bind_some, if_pos g2, g3, Option.bind_some, if_pos rfl, hi, Option.bind_some]
      exact J
    | false =>
      rw [if_neg (by simp), hi, Option.bind_some]
      exact J
end Go.Proofs.YtilcmgdjfhhcdaaDoor.Pure
