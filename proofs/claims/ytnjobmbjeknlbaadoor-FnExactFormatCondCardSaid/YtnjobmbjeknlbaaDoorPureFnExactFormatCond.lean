/- FnExactFormatCond: the program's FormatCond answers what the reference's answers, for every condition. Conditions: when the call begins the package variables that the row lists read as their initialisers lay them. -/
import Derived.Test.YtnjobmbjeknlbaaDoorLib
import Derived.Test.YtnjobmbjeknlbaaDoorXFnExactFormatCondx7
namespace Go.Proofs.YtnjobmbjeknlbaaDoor.Pure
open Go.RowKit Go.Proofs.YtnjobmbjeknlbaaDoor.XFnExactFormatCond Go.Proofs.YtnjobmbjeknlbaaDoorW.PrintWords
set_option linter.unusedVariables false
set_option linter.unusedSimpArgs false
open Go.Proofs.YtnjobmbjeknlbaaDoorLib
/-! ### Trees: how many nodes, and how many rounds -/
mutual
def nodesA : S26 → Nat
  | ⟨_, _, _, l⟩ => 1 + nodesAS l
def nodesAS : List S26 → Nat
  | [] => 0
  | x :: l => nodesA x + nodesAS l
end
mutual
def nodesB : S31 → Nat
  | ⟨_, _, _, l⟩ => 1 + nodesBS l
def nodesBS : List S31 → Nat
  | [] => 0
  | x :: l => nodesB x + nodesBS l
end
theorem nodesA_eq (x : S26) : nodesA x = 1 + nodesAS x.f3 := by cases x; rw [nodesA]
theorem nodesB_eq (x : S31) : nodesB x = 1 + nodesBS x.f3 := by cases x; rw [nodesB]
theorem nodesAS_sum (l : List S26) : nodesAS l = (l.map nodesA).sum := by
  induction l with
  | nil => rw [nodesAS]; rfl
  | cons x l ih => rw [nodesAS, ih]; rfl
theorem nodesBS_sum (l : List S31) : nodesBS l = (l.map nodesB).sum := by
  induction l with
  | nil => rw [nodesBS]; rfl
  | cons x l ih => rw [nodesBS, ih]; rfl
theorem nodesAS_below (l : List S26) : nodesAS l = l.length + (l.map fun x => nodesAS x.f3).sum := by
  induction l with
  | nil => rw [nodesAS]; rfl
  | cons x l ih =>
    rw [nodesAS, ih, nodesA_eq, List.map_cons, List.sum_cons, List.length_cons]
    omega
theorem nodesBS_below (l : List S31) : nodesBS l = l.length + (l.map fun x => nodesBS x.f3).sum := by
  induction l with
  | nil => rw [nodesBS]; rfl
  | cons x l ih =>
    rw [nodesBS, ih, nodesB_eq, List.map_cons, List.sum_cons, List.length_cons]
    omega
theorem nodesA_lt (l : List S26) (x : S26) (h : x ∈ l) : nodesAS x.f3 + l.length ≤ nodesAS l := by
  have := le_sum (fun x : S26 => nodesAS x.f3) l x h
  rw [nodesAS_below l]
  omega
theorem nodesB_lt (l : List S31) (x : S31) (h : x ∈ l) : nodesBS x.f3 + l.length ≤ nodesBS l := by
  have := le_sum (fun x : S31 => nodesBS x.f3) l x h
  rw [nodesBS_below l]
  omega
theorem rdCA (l : List S26) (i : Nat) : rd_T26 l (i : Int) = l.getD i z26 := by
  unfold rd_T26
  rw [Int.toNat_natCast]
theorem rdCB (l : List S31) (i : Nat) : rd_T31 l (i : Int) = l.getD i z31 := by
  unfold rd_T31
  rw [Int.toNat_natCast]
/-! ### The size that is left -/
theorem szCondS_of (N : Nat) : ∀ (l : List S26) (a : Int) (k : Nat), nodesAS l ≤ N → (∀ x ∈ l, wf26 x) → l.length ≤ maxLen → 0 ≤ a → a ≤ 1048576 → 4 * N + 4 < k → laws_szCondS.f k l a = some (if (nodesAS l : Int) ≤ a then a - (nodesAS l : Int) else -1) := by
  induction N using Nat.strongRecOn with
  | _ N ih =>
    intro l a k hN hw hlen h0 h1 hk
    obtain ⟨k, rfl⟩ : ∃ m, k = m + 1 := ⟨k - 1, by omega⟩
    simp only [laws_szCondS.f]
    unfold maxLen at hlen
    have hb := nodesAS_below l
    rw [wrap_in (by omega) (by omega)]
    by_cases h : (l.length : Int) ≤ a
    · rw [if_neg (by omega), hb]
      rcases Nat.eq_zero_or_pos l.length with hz | hz
      · obtain rfl : l = [] := List.eq_nil_of_length_eq_zero hz
        obtain ⟨k, rfl⟩ : ∃ m, k = m + 1 := ⟨k - 1, by omega⟩
        rw [laws_szCondS.l0, if_neg (by simp)]
        simp [h0]
      have hx : ∀ k i a', 4 * (N - l.length) + 6 ≤ k → i < l.length → 0 ≤ a' → a' ≤ 1048576 → laws_szCondS.l0 (k + 1) l a' (i : Int) = if (nodesAS (l.getD i z26).f3 : Int) ≤ a' then laws_szCondS.l0 k l (a' - (nodesAS (l.getD i z26).f3 : Int)) ((i + 1 : Nat) : Int) else some (-1) := by
        intro k i a' hk hi g0 g1
        obtain ⟨k, rfl⟩ : ∃ m, k = m + 1 := ⟨k - 1, by omega⟩
        have hm := getD_mem l i z26 hi
        have hlt := nodesA_lt l _ hm
        have hww := hw _ hm
        rw [laws_szCondS.l0, if_pos (by omega), if_pos (by omega), rdCA, laws_szCond.f]
        generalize l.getD i z26 = x at hm hlt hww ⊢
        cases hww with
        | mk f0 f1 f2 f3 _ _ _ hl3 hw3 =>
          simp only at hlt ⊢
          rw [ih (N - l.length) (by omega) f3 a' k (by omega) hw3 hl3 g0 g1 (by omega), Option.bind_some, wrap_succ hi (by omega)]
          by_cases g : (nodesAS f3 : Int) ≤ a'
          · rw [if_pos g, if_neg (by omega), Option.bind_some, if_neg (by omega), if_pos g]
          · rw [if_neg g, if_pos (by omega), Option.bind_some, if_pos (by omega), if_neg g]
      rw [szLoop (fun k a i => laws_szCondS.l0 k l a i) l z26 (fun x => nodesAS x.f3) (4 * (N - l.length) + 6) 1048576 hx ?_ k (a - (l.length : Int)) (by omega) (by omega) (by omega)]
      · generalize (l.map fun x => nodesAS x.f3).sum = s
        by_cases g : (s : Int) ≤ a - (l.length : Int)
        · rw [if_pos g, if_pos (by omega)]; congr 1; omega
        · rw [if_neg g, if_neg (by omega)]
      · intro k a' _
        simp only [laws_szCondS.l0]
        rw [if_neg (by omega)]
    · rw [if_pos (by omega), if_neg (by omega)]
theorem szCond_of (a b c : Int) (l : List S26) (n : Int) (k : Nat) (hw : ∀ x ∈ l, wf26 x) (hlen : l.length ≤ maxLen) (h0 : 0 ≤ n) (h1 : n ≤ 1048576) (hk : 4 * nodesAS l + 5 < k) : laws_szCond.f k a b c l n = some (if (nodesAS l : Int) ≤ n then n - (nodesAS l : Int) else -1) := by
  obtain ⟨k, rfl⟩ : ∃ m, k = m + 1 := ⟨k - 1, by omega⟩
  simp only [laws_szCond.f]
  rw [szCondS_of (nodesAS l) l n k (Nat.le_refl _) hw hlen h0 h1 (by omega), Option.bind_some]
  by_cases g : (nodesAS l : Int) ≤ n
  · rw [if_pos g, if_neg (by omega)]
  · rw [if_neg g, if_pos (by omega)]
/-! ### The tree that the program reads -/
mutual
def cvCond : S26 → S31
  | ⟨a, b, c, l⟩ => ⟨a, b, c, cvCondS l⟩
def cvCondS : List S26 → List S31
  | [] => []
  | x :: l => cvCond x :: cvCondS l
end
theorem cvCond_eq (x : S26) : cvCond x = ⟨x.f0, x.f1, x.f2, cvCondS x.f3⟩ := by cases x; rw [cvCond]
theorem cvCondS_map (l : List S26) : cvCondS l = l.map cvCond := by
  induction l with
  | nil => rw [cvCondS]; rfl
  | cons x l ih => rw [cvCondS, ih]; rfl
theorem cv_nodes (N : Nat) : ∀ l : List S26, nodesAS l ≤ N → nodesBS (cvCondS l) = nodesAS l := by
  induction N with
  | zero =>
    intro l h
    have := nodesAS_below l
    obtain rfl : l = [] := List.eq_nil_of_length_eq_zero (by omega)
    rw [cvCondS, nodesBS, nodesAS]
  | succ N ih =>
    intro l
    induction l with
    | nil => intro _; rw [cvCondS, nodesBS, nodesAS]
    | cons x l il =>
      intro h
      rw [nodesAS] at h
      have hx := nodesA_eq x
      rw [cvCondS, nodesBS, nodesAS, il (by omega), nodesB_eq, cvCond_eq, ih x.f3 (by omega), hx]
theorem toCondS_of (N : Nat) : ∀ (l : List S26) (k : Nat), nodesAS l ≤ N → N ≤ 1048576 → 4 * N + 4 < k → laws_toCondS.f k l = some (cvCondS l) := by
  induction N using Nat.strongRecOn with
  | _ N ih =>
    intro l k hN hN2 hk
    obtain ⟨k, rfl⟩ : ∃ m, k = m + 1 := ⟨k - 1, by omega⟩
    have hb := nodesAS_below l
    simp only [laws_toCondS.f]
    rw [if_pos (by omega), if_pos (by omega), Int.toNat_natCast, cvCondS_map]
    rcases Nat.eq_zero_or_pos l.length with hz | hz
    · obtain rfl : l = [] := List.eq_nil_of_length_eq_zero hz
      obtain ⟨k, rfl⟩ : ∃ m, k = m + 1 := ⟨k - 1, by omega⟩
      simp [laws_toCondS.l0]
    refine (run (fun k s i => laws_toCondS.l0 k l s i) (put (fun i => cvCond (l.getD i z26)) (List.replicate l.length z31)) l.length (4 * (N - l.length) + 6) (l.map cvCond) ?_ ?_ k (by omega))
    · intro k i hk hi
      obtain ⟨k, rfl⟩ : ∃ m, k = m + 1 := ⟨k - 1, by omega⟩
      have hlen : (put (fun i => cvCond (l.getD i z26)) (List.replicate l.length z31) i).length = l.length := by rw [put_length _ _ _ (by simp; omega), List.length_replicate]
      have hlt := nodesA_lt l _ (getD_mem l i z26 hi)
      rw [laws_toCondS.l0, if_pos (by omega), if_pos (by omega), rdCA, laws_toCond.f, ih (N - l.length) (by omega) _ k (by omega) (by omega) (by omega), Option.bind_some, Option.bind_some, if_pos (by omega), wrap_succ hi (by omega), Int.toNat_natCast]
      rw [← cvCond_eq, put_set (fun i => cvCond (l.getD i z26)) _ i (by simp; omega)]
    · intro k _
      simp only [laws_toCondS.l0]
      rw [if_neg (by omega), put_all _ _ (by simp), map_range_getD l z26 cvCond]
theorem toCond_of (a b c : Int) (l : List S26) (k : Nat) (h : nodesAS l ≤ 1048576) (hk : 4 * nodesAS l + 5 < k) : laws_toCond.f k a b c l = some (a, b, c, cvCondS l) := by
  obtain ⟨k, rfl⟩ : ∃ m, k = m + 1 := ⟨k - 1, by omega⟩
  simp only [laws_toCond.f]
  rw [toCondS_of (nodesAS l) l k (Nat.le_refl _) h (by omega), Option.bind_some]
/-! ### A tree is the same as itself -/
theorem eqCondS_of (N : Nat) : ∀ (l : List S31) (k : Nat), nodesBS l ≤ N → N ≤ 4194304 → 4 * N + 4 < k → laws_eqCondS.f k l l = some true := by
  induction N using Nat.strongRecOn with
  | _ N ih =>
    intro l k hN hN2 hk
    obtain ⟨k, rfl⟩ : ∃ m, k = m + 1 := ⟨k - 1, by omega⟩
    have hb := nodesBS_below l
    rw [laws_eqCondS.f, if_pos rfl]
    rcases Nat.eq_zero_or_pos l.length with hz | hz
    · obtain rfl : l = [] := List.eq_nil_of_length_eq_zero hz
      obtain ⟨k, rfl⟩ : ∃ m, k = m + 1 := ⟨k - 1, by omega⟩
      simp [laws_eqCondS.l0]
    refine (run (fun k (_ : Unit) i => laws_eqCondS.l0 k l l i) (fun _ => ()) l.length (4 * (N - l.length) + 6) true ?_ ?_ k (by omega))
    · intro k i hk hi
      obtain ⟨k, rfl⟩ : ∃ m, k = m + 1 := ⟨k - 1, by omega⟩
      have hlt := nodesB_lt l _ (getD_mem l i z31 hi)
      rw [laws_eqCondS.l0, if_pos (by omega), if_pos (by omega), if_pos (by omega), rdCB, laws_eqCond.f, if_pos rfl, if_pos rfl, if_pos rfl, ih (N - l.length) (by omega) _ k (by omega) (by omega) (by omega), Option.bind_some, if_pos rfl, Option.bind_some, if_pos rfl, wrap_succ hi (by omega)]
    · intro k _
      simp only [laws_eqCondS.l0]
      rw [if_neg (by omega)]
theorem eqCond_of (a b c : Int) (l : List S31) (k : Nat) (h : nodesBS l ≤ 4194304) (hk : 4 * nodesBS l + 5 < k) : laws_eqCond.f k a b c l a b c l = some true := by
  obtain ⟨k, rfl⟩ : ∃ m, k = m + 1 := ⟨k - 1, by omega⟩
  simp only [laws_eqCond.f, if_true]
  rw [eqCondS_of (nodesBS l) l k (Nat.le_refl _) h (by omega), Option.bind_some, if_pos rfl]
theorem size2 (N : Nat) : ∀ (a b c : Int) (l : List S31) (k : Nat), nodesBS l ≤ N → N ≤ 1048576 → 4 * N + 4 < k → impl_SizeOf.f k a b c l = some (1 + (nodesBS l : Int)) := by
  induction N using Nat.strongRecOn with
  | _ N ih =>
    intro a b c l k hN hN2 hk
    obtain ⟨k, rfl⟩ : ∃ m, k = m + 1 := ⟨k - 1, by omega⟩
    have hb := nodesBS_below l
    simp only [impl_SizeOf.f]
    rcases Nat.eq_zero_or_pos l.length with hz | hz
    · obtain rfl : l = [] := List.eq_nil_of_length_eq_zero hz
      obtain ⟨k, rfl⟩ : ∃ m, k = m + 1 := ⟨k - 1, by omega⟩
      simp [impl_SizeOf.l0, nodesBS]
    have h := run (fun k s i => impl_SizeOf.l0 k s l (l.length : Int) i) (fun i => 1 + (((l.take i).map nodesB).sum : Int)) l.length (4 * (N - l.length) + 6) (1 + (nodesBS l : Int)) ?_ ?_ k (by omega)
    · simpa using h
    · intro k i hk hi
      have hm := getD_mem l i z31 hi
      have hlt := nodesB_lt l _ hm
      have hle : ((l.take i).map nodesB).sum + nodesB (l.getD i z31) = ((l.take (i + 1)).map nodesB).sum := by
        rw [List.take_succ_eq_append_getElem hi, List.map_append, List.sum_append, getD_get l i _ hi]
        simp
      have hle2 : ((l.take (i + 1)).map nodesB).sum ≤ nodesBS l := by
        rw [nodesBS_sum]
        have h3 : (l.map nodesB).sum = ((l.take (i + 1)).map nodesB).sum + ((l.drop (i + 1)).map nodesB).sum := by rw [← List.sum_append, ← List.map_append, List.take_append_drop]
        omega
      have hn := nodesB_eq (l.getD i z31)
      simp only [impl_SizeOf.l0, rdCB]
      rw [if_pos (by omega), if_pos (by omega), if_pos (by omega), ih (N - l.length) (by omega) _ _ _ _ k (by omega) (by omega) (by omega), Option.bind_some, wrap_succ hi (by omega), wrap_in (by omega) (by omega)]
      congr 1
      omega
    · intro k _
      simp only [impl_SizeOf.l0]
      rw [if_neg (by omega), List.take_of_length_le (Nat.le_refl _), nodesBS_sum]
theorem in1 (x y z : Int) : spec_l1In.f x y z = some (decide (y ≤ x ∧ x ≤ z)) := by
  unfold spec_l1In.f
  by_cases h : x ≥ y
  · rw [if_pos h]; simp [show y ≤ x from h]
  · rw [if_neg h]; simp; omega
theorem in2 (x y z : Int) : impl_InRange.f x y z = some (decide (y ≤ x ∧ x ≤ z)) := by
  unfold impl_InRange.f
  by_cases h : y ≤ x
  · rw [if_pos h]; simp [h]
  · rw [if_neg h]; simp; omega
def arity (op : Int) : Int := if op = 7 then 1 else if op = 8 then 2 else if op = 9 then 2 else if 1 ≤ op ∧ op ≤ 6 then 0 else -1
def amax (op : Int) : Int := if op = 2 then 5 else if op = 4 then 3 else if op = 5 then 3 else if op = 6 then 10000 else 0
def bmax (op : Int) : Int := if 2 ≤ op ∧ op ≤ 5 then 10000 else 0
def nodeOk (op a b : Int) (n : Nat) : Bool := decide ((n : Int) = arity op) && (decide (0 ≤ a ∧ a ≤ amax op) && decide (0 ≤ b ∧ b ≤ bmax op))
theorem arity2 (op : Int) (k : Nat) : impl_ArityOf.f (k + 1) op = some (arity op) := by
  simp only [impl_ArityOf.f, impl_ArityOf.j0, in2, Option.bind_some]
  unfold arity
  by_cases h7 : op = 7
  · simp [h7]
  by_cases h8 : op = 8
  · simp [h8]
  by_cases h9 : op = 9
  · simp [h9]
  by_cases h : 1 ≤ op ∧ op ≤ 6
  · simp [h7, h8, h9, h]
  · simp [h7, h8, h9, h]
theorem arity1 (op : Int) (k : Nat) : spec_ArityOf.f (k + 1) op = some (arity op) := by
  simp only [spec_ArityOf.f, spec_ArityOf.j0]
  unfold arity
  by_cases h1 : op = 1
  · simp [h1]
  by_cases h2 : op = 2
  · simp [h2]
  by_cases h3 : op = 3
  · simp [h3]
  by_cases h4 : op = 4
  · simp [h4]
  by_cases h5 : op = 5
  · simp [h5]
  by_cases h6 : op = 6
  · simp [h6]
  have h : ¬ (1 ≤ op ∧ op ≤ 6) := by omega
  simp only [h1, h2, h3, h4, h5, h6, h, if_false, beq_iff_eq]
  split
  · rfl
  · split
    · rfl
    · split <;> rfl
theorem node2 (op a b : Int) (l : List S31) (k : Nat) : impl_isNode.f (k + 1 + 1 + 1) op a b l = some (nodeOk op a b l.length) := by
  simp only [impl_isNode.f, impl_isNode.j0, impl_isNode.j1, arity2, in2, Option.bind_some]
  unfold nodeOk amax bmax
  generalize arity op = z
  by_cases h2 : op = 2
  · subst h2; by_cases hz : (l.length : Int) = z <;> simp [hz] <;> (split <;> rename_i hp <;> simp [hp] <;> omega)
  by_cases h4 : op = 4
  · subst h4; by_cases hz : (l.length : Int) = z <;> simp [hz] <;> (split <;> rename_i hp <;> simp [hp] <;> omega)
  by_cases h5 : op = 5
  · subst h5; by_cases hz : (l.length : Int) = z <;> simp [hz] <;> (split <;> rename_i hp <;> simp [hp] <;> omega)
  by_cases h6 : op = 6
  · subst h6; by_cases hz : (l.length : Int) = z <;> simp [hz] <;> (split <;> rename_i hp <;> simp [hp] <;> omega)
  by_cases h : 2 ≤ op ∧ op ≤ 5
  · by_cases hz : (l.length : Int) = z <;> simp [hz, h2, h4, h5, h6, h] <;> (split <;> rename_i hp <;> simp [hp] <;> omega)
  · by_cases hz : (l.length : Int) = z <;> simp [hz, h2, h4, h5, h6, h] <;> (split <;> rename_i hp <;> simp [hp] <;> omega)
theorem node1 (op a b : Int) (l : List S31) (k : Nat) : spec_l15Node.f (k + 1 + 1 + 1) op a b l = some (nodeOk op a b l.length) := by
  simp only [spec_l15Node.f, spec_l15Node.j0, spec_l15Node.j1, spec_IsTime.f, arity1, in1, Option.bind_some]
  unfold nodeOk amax bmax
  generalize arity op = z
  have ha0 : (a == 0) = decide (0 ≤ a ∧ a ≤ 0) := by rw [Bool.eq_iff_iff]; simp; omega
  have hb0 : (b == 0) = decide (0 ≤ b ∧ b ≤ 0) := by rw [Bool.eq_iff_iff]; simp; omega
  rw [ha0, hb0]
  generalize ((l.length : Int)) = y
  have hyz : (y == z) = decide (y = z) := by rw [Bool.eq_iff_iff]; simp
  rw [hyz]
  by_cases h2 : op = 2
  · subst h2; simp; by_cases p : 0 ≤ a ∧ a ≤ 5 <;> by_cases q : 0 ≤ b ∧ b ≤ 10000 <;> simp [p, q] <;> intros <;> omega
  by_cases h4 : op = 4
  · subst h4; simp; by_cases p : 0 ≤ a ∧ a ≤ 3 <;> by_cases q : 0 ≤ b ∧ b ≤ 10000 <;> simp [p, q] <;> intros <;> omega
  by_cases h5 : op = 5
  · subst h5; simp; by_cases p : 0 ≤ a ∧ a ≤ 3 <;> by_cases q : 0 ≤ b ∧ b ≤ 10000 <;> simp [p, q] <;> intros <;> omega
  by_cases h6 : op = 6
  · subst h6; simp; by_cases p : 0 ≤ a ∧ a ≤ 10000 <;> by_cases q : 0 ≤ b ∧ b ≤ 0 <;> simp [p, q] <;> intros <;> omega
  by_cases h : 2 ≤ op ∧ op ≤ 5
  · simp [h2, h4, h5, h6, h]; by_cases p : 0 ≤ a ∧ a ≤ 0 <;> by_cases q : 0 ≤ b ∧ b ≤ 10000 <;> simp [p, q] <;> intros <;> omega
  · simp [h2, h4, h5, h6, h]; by_cases p : 0 ≤ a ∧ a ≤ 0 <;> by_cases q : 0 ≤ b ∧ b ≤ 0 <;> simp [p, q] <;> intros <;> omega
def okSep : Unit := ()
mutual
def okB : S31 → Bool
  | ⟨a, b, c, l⟩ => nodeOk a b c l.length && okBS l
def okBS : List S31 → Bool
  | [] => true
  | x :: l => okB x && okBS l
end
theorem okB_eq (x : S31) : okB x = (nodeOk x.f0 x.f1 x.f2 x.f3.length && okBS x.f3) := by cases x; rw [okB]
theorem okBS_all (l : List S31) : okBS l = l.all okB := by
  induction l with
  | nil => rw [okBS]; rfl
  | cons x l ih => rw [okBS, ih]; rfl
theorem okBS_range (l : List S31) : (List.range l.length).all (fun i => okB (l.getD i z31)) = okBS l := by rw [okBS_all, all_range_getD l z31 okB]
theorem valid1 (N : Nat) : ∀ (a b c : Int) (l : List S31) (k : Nat), nodesBS l ≤ N → N ≤ 1048576 → 4 * N + 8 < k → spec_l15Valid.f k a b c l = some (nodeOk a b c l.length && okBS l) := by
  induction N using Nat.strongRecOn with
  | _ N ih =>
    intro a b c l k hN hN2 hk
    obtain ⟨k, rfl⟩ : ∃ m, k = m + 1 + 1 + 1 + 1 := ⟨k - 4, by omega⟩
    have hb := nodesBS_below l
    rw [spec_l15Valid.f, node1, Option.bind_some]
    by_cases h : nodeOk a b c l.length = true
    · rw [if_pos h, h, Bool.true_and]
      rcases Nat.eq_zero_or_pos l.length with hz | hz
      · obtain rfl : l = [] := List.eq_nil_of_length_eq_zero hz
        rw [spec_l15Valid.l0, if_neg (by simp), okBS]
      rw [allLoop (fun k i => spec_l15Valid.l0 k i a b c l) l.length (4 * (N - l.length) + 9) (fun i => okB (l.getD i z31)) false true ?_ ?_ ?_ (k + 1 + 1 + 1) (by omega), okBS_range]
      · cases okBS l <;> rfl
      · intro k i hk hi hp
        have hlt := nodesB_lt l _ (getD_mem l i z31 hi)
        rw [spec_l15Valid.l0, if_pos (by omega), if_pos (by omega), rdCB, ih (N - l.length) (by omega) _ _ _ _ k (by omega) (by omega) (by omega), Option.bind_some, ← okB_eq, if_pos hp, wrap_succ hi (by omega)]
      · intro k i hk hi hp
        have hlt := nodesB_lt l _ (getD_mem l i z31 hi)
        rw [spec_l15Valid.l0, if_pos (by omega), if_pos (by omega), rdCB, ih (N - l.length) (by omega) _ _ _ _ k (by omega) (by omega) (by omega), Option.bind_some, ← okB_eq, hp, if_neg (by simp)]
      · intro k _
        rw [spec_l15Valid.l0, if_neg (by omega)]
    · rw [if_neg h, Bool.eq_false_iff.2 h, Bool.false_and]
theorem valid2 (N : Nat) : ∀ (a b c : Int) (l : List S31) (k : Nat), nodesBS l ≤ N → N ≤ 1048576 → 7 * N + 9 < k → impl_areNodes.f k a b c l = some (nodeOk a b c l.length && okBS l) := by
  induction N using Nat.strongRecOn with
  | _ N ih =>
    intro a b c l k hN hN2 hk
    obtain ⟨k, rfl⟩ : ∃ m, k = m + 1 + 1 + 1 + 1 := ⟨k - 4, by omega⟩
    have hb := nodesBS_below l
    rw [impl_areNodes.f, node2, Option.bind_some]
    by_cases h : nodeOk a b c l.length = true
    · rw [if_pos h, h, Bool.true_and, impl_Cond_29.f, impl_Cond_35.f]
      have hl : impl_Cond_35.l0 (k + 1) l (l.length : Int) 0 = some (((List.range l.length).find? fun i => !okB (l.getD i z31)).elim (-1) fun i => (i : Int)) := by
        rcases Nat.eq_zero_or_pos l.length with hz | hz
        · obtain rfl : l = [] := List.eq_nil_of_length_eq_zero hz
          rw [impl_Cond_35.l0, if_neg (by simp)]
          rfl
        refine findLoop (fun k i => impl_Cond_35.l0 k l (l.length : Int) i) l.length (7 * (N - l.length) + 11) (fun i => !okB (l.getD i z31)) (fun i => (i : Int)) (-1) ?_ ?_ ?_ (k + 1) (by omega)
        · intro k i hk hi hp
          obtain ⟨k, rfl⟩ : ∃ m, k = m + 1 := ⟨k - 1, by omega⟩
          have hlt := nodesB_lt l _ (getD_mem l i z31 hi)
          rw [impl_Cond_35.l0, if_pos (by omega), if_pos (by omega), if_pos (by omega), rdCB, impl_areNodes_1.f, ih (N - l.length) (by omega) _ _ _ _ k (by omega) (by omega) (by omega), Option.bind_some, Option.bind_some, ← okB_eq, hp, if_neg (by simp), wrap_succ hi (by omega)]
        · intro k i hk hi hp
          obtain ⟨k, rfl⟩ : ∃ m, k = m + 1 := ⟨k - 1, by omega⟩
          have hlt := nodesB_lt l _ (getD_mem l i z31 hi)
          rw [impl_Cond_35.l0, if_pos (by omega), if_pos (by omega), if_pos (by omega), rdCB, impl_areNodes_1.f, ih (N - l.length) (by omega) _ _ _ _ k (by omega) (by omega) (by omega), Option.bind_some, Option.bind_some, ← okB_eq, hp, if_pos rfl]
        · intro k _
          rw [impl_Cond_35.l0, if_neg (by omega)]
      rw [hl, Option.bind_some, Option.bind_some, ← okBS_range]
      congr 1
      cases hf : (List.range l.length).find? fun i => !okB (l.getD i z31) with
      | none =>
        rw [List.find?_eq_none] at hf
        show (!decide ((-1 : Int) ≥ 0)) = _
        rw [show (!decide ((-1 : Int) ≥ 0)) = true from rfl, eq_comm, List.all_eq_true]
        intro i hi
        simpa using hf i hi
      | some i =>
        rw [List.find?_range_eq_some] at hf
        show (!decide ((i : Int) ≥ 0)) = _
        rw [decide_eq_true (show (i : Int) ≥ 0 by omega), eq_comm, show (!true) = false from rfl, List.all_eq_false]
        exact ⟨i, hf.2.1, by simpa using hf.1⟩
    · rw [if_neg h, Bool.eq_false_iff.2 h, Bool.false_and]
/-- What is left of n behind a tree: n - 1 - its other nodes, or less than 0. -/
def leftOk (n : Int) (s : Nat) (r : Int) : Prop := if (s : Int) ≤ n then r = n - (s : Int) else r < 0
theorem left1 (N : Nat) : ∀ (a b c : Int) (l : List S31) (n : Int) (k : Nat), nodesBS l ≤ N → N ≤ 1048576 → 0 ≤ n → n ≤ 1048576 → 4 * N + 8 < k → ∃ r, spec_l15Left.f k a b c l n = some r ∧ leftOk n (1 + nodesBS l) r ∧ -1 ≤ r := by
  induction N using Nat.strongRecOn with
  | _ N ih =>
    intro a b c l n k hN hN2 h0 h1 hk
    obtain ⟨k, rfl⟩ : ∃ m, k = m + 1 := ⟨k - 1, by omega⟩
    have hb := nodesBS_below l
    rw [spec_l15Left.f, wrap_in (by omega) (by omega)]
    rcases Nat.eq_zero_or_pos l.length with hz | hz
    · obtain rfl : l = [] := List.eq_nil_of_length_eq_zero hz
      obtain ⟨k, rfl⟩ : ∃ m, k = m + 1 := ⟨k - 1, by omega⟩
      refine ⟨n - 1, by rw [spec_l15Left.l0, if_neg (by simp)], ?_, by omega⟩
      rw [nodesBS]
      unfold leftOk
      split <;> omega
    have key : ∀ d i k (m : Int), i + d = l.length → d + 4 * (N - l.length) + 10 < k → -1 ≤ m → m ≤ 1048576 → ∃ r, spec_l15Left.l0 k m (i : Int) a b c l = some r ∧ leftOk m (((l.drop i).map nodesB).sum) r ∧ -1 ≤ r := by
      intro d
      induction d with
      | zero =>
        intro i k m hi hk g0 g1
        obtain ⟨k, rfl⟩ : ∃ m, k = m + 1 := ⟨k - 1, by omega⟩
        refine ⟨m, by rw [spec_l15Left.l0, if_neg (by omega)], ?_, g0⟩
        rw [List.drop_of_length_le (by omega)]
        unfold leftOk
        simp only [List.map_nil, List.sum_nil]
        split <;> omega
      | succ d il =>
        intro i k m hi hk g0 g1
        obtain ⟨k, rfl⟩ : ∃ m, k = m + 1 := ⟨k - 1, by omega⟩
        have hlt : i < l.length := by omega
        have hm := getD_mem l i z31 hlt
        have hn := nodesB_lt l _ hm
        have hd : ((l.drop i).map nodesB).sum = nodesB (l.getD i z31) + ((l.drop (i + 1)).map nodesB).sum := by
          rw [List.drop_eq_getElem_cons hlt, List.map_cons, List.sum_cons, getD_get l i _ hlt]
        have hx := nodesB_eq (l.getD i z31)
        rw [spec_l15Left.l0, if_pos (by omega), hd]
        by_cases hm0 : m ≥ 0
        · obtain ⟨r, e, hr, hr0⟩ := ih (N - l.length) (by omega) (l.getD i z31).f0 (l.getD i z31).f1 (l.getD i z31).f2 (l.getD i z31).f3 m k (by omega) (by omega) hm0 g1 (by omega)
          have hrm : r ≤ 1048576 := by unfold leftOk at hr; split at hr <;> omega
          obtain ⟨r2, e2, hr2, hr20⟩ := il (i + 1) k r (by omega) (by omega) hr0 hrm
          refine ⟨r2, ?_, ?_, hr20⟩
          · rw [if_pos hm0, if_pos (by omega), rdCB, e, Option.bind_some, wrap_succ hlt (by omega), e2]
          · unfold leftOk at hr hr2 ⊢
            split at hr <;> split at hr2 <;> split <;> omega
        · refine ⟨m, by rw [if_neg hm0], ?_, g0⟩
          unfold leftOk
          split <;> omega
    obtain ⟨r, e, hr, hr0⟩ := key l.length 0 k (n - 1) (by omega) (by omega) (by omega) (by omega)
    refine ⟨r, e, ?_, hr0⟩
    rw [List.drop_zero, ← nodesBS_sum] at hr
    unfold leftOk at hr ⊢
    split at hr <;> split <;> omega
/-! ### The text of a condition -/
def sp : ByteArray := ⟨#[32]⟩
def nmL : List ByteArray := [⟨#[]⟩, ⟨#[116, 114, 117, 101]⟩, ⟨#[114, 111, 108, 101]⟩, ⟨#[111, 119, 110, 115]⟩, ⟨#[104, 101, 97, 108, 116, 104]⟩, ⟨#[98, 117, 105, 108, 100]⟩, ⟨#[98, 101, 102, 111, 114, 101]⟩, ⟨#[110, 111, 116]⟩, ⟨#[97, 110, 100]⟩, ⟨#[111, 114]⟩]
def nm (op : Nat) : ByteArray := nmL.getD op ByteArray.empty
def numT (n : Int) : ByteArray := ⟨(Go.Lib.itoa n).toArray⟩
def mkT (op a b : Int) (ts : List ByteArray) : ByteArray :=
  if op = 7 then (nm 7 ++ sp) ++ ts.getD 0 ByteArray.empty
  else if op = 8 then (((((⟨#[40]⟩ ++ ts.getD 0 ByteArray.empty) ++ sp) ++ nm 8) ++ sp) ++ ts.getD 1 ByteArray.empty) ++ ⟨#[41]⟩
  else if op = 9 then (((((⟨#[40]⟩ ++ ts.getD 0 ByteArray.empty) ++ sp) ++ nm 9) ++ sp) ++ ts.getD 1 ByteArray.empty) ++ ⟨#[41]⟩
  else if op = 1 then nm 1
  else if op = 3 then nm 3 ++ (sp ++ numT b)
  else if op = 6 then nm 6 ++ (sp ++ numT a)
  else (nm op.toNat ++ (sp ++ numT a)) ++ (sp ++ numT b)
mutual
def txt : S31 → ByteArray
  | ⟨op, a, b, l⟩ => mkT op a b (txtS l)
def txtS : List S31 → List ByteArray
  | [] => []
  | x :: l => txt x :: txtS l
end
theorem txt_eq (x : S31) : txt x = mkT x.f0 x.f1 x.f2 (txtS x.f3) := by cases x; rw [txt]
theorem txt_eta (x : S31) : txt ⟨x.f0, x.f1, x.f2, x.f3⟩ = txt x := by cases x; rfl
theorem one_of {α : Type} {l : List α} (h : l.length = 1) : ∃ x, l = [x] := by
  match l, h with
  | [x], _ => exact ⟨x, rfl⟩
theorem two_of {α : Type} {l : List α} (h : l.length = 2) : ∃ x y, l = [x, y] := by
  match l, h with
  | [x, y], _ => exact ⟨x, y, rfl⟩
theorem sz_sp : sp.size = 1 := rfl
theorem sz_open : (⟨#[40]⟩ : ByteArray).size = 1 := rfl
theorem sz_shut : (⟨#[41]⟩ : ByteArray).size = 1 := rfl
theorem sz_blank : (⟨#[32]⟩ : ByteArray).size = 1 := rfl
theorem sz_nm (op : Nat) : (nm op).size ≤ 6 := by
  unfold nm nmL
  match op with
  | 0 => decide
  | 1 => decide
  | 2 => decide
  | 3 => decide
  | 4 => decide
  | 5 => decide
  | 6 => decide
  | 7 => decide
  | 8 => decide
  | 9 => decide
  | n + 10 => simp
theorem nDigits_le : ∀ (k u : Nat), u < 10 ^ (k + 1) → Go.Lib.nDigits u ≤ k + 1
  | 0, u, h => by rw [Go.Lib.nDigits_small (by simpa using h)]; omega
  | k + 1, u, h => by
    by_cases hs : u < 10
    · rw [Go.Lib.nDigits_small hs]; omega
    · rw [Go.Lib.nDigits_big hs]
      have := nDigits_le k (u / 10) (by rw [Nat.pow_succ] at h; omega)
      omega
theorem itoa_nat (u : Nat) : Go.Lib.itoa (u : Int) = Go.Lib.decDigits u := by
  unfold Go.Lib.itoa
  rw [if_neg (by omega), Int.toNat_natCast]
theorem sz_num (n : Int) (h0 : 0 ≤ n) (h1 : n ≤ 10000) : (numT n).size ≤ 5 := by
  obtain ⟨u, rfl⟩ : ∃ u : Nat, n = u := ⟨n.toNat, by omega⟩
  have h : (numT (u : Int)).size = Go.Lib.nDigits u := by
    unfold numT
    rw [itoa_nat]
    show (Go.Lib.decDigits u).toArray.size = _
    rw [List.size_toArray, Go.Lib.decDigits_length]
  rw [h]
  exact nDigits_le 4 u (by omega)
theorem fmt2 (n : Int) (h0 : 0 ≤ n) (h1 : n ≤ 10000) : impl_FormatInt.f n = some (numT n) := by
  unfold impl_FormatInt.f strconv_Itoa.f
  rw [if_pos ⟨by omega, by omega⟩]
  rfl
theorem digit_str (u : Nat) (s : List UInt8) (hu : u < 10) : strOfNums [(wrap64 (48 + (u : Int))) % 256] ++ (⟨s.toArray⟩ : ByteArray) = ⟨(UInt8.ofNat (48 + u) :: s).toArray⟩ := by
  have e : (wrap64 (48 + (u : Int))) % 256 = ((48 + u : Nat) : Int) := by rw [wrap_in (by omega) (by omega)]; omega
  rw [e]
  unfold strOfNums
  rw [List.map_cons, List.map_nil, Int.toNat_natCast]
  apply ByteArray.ext
  rw [ByteArray.data_append]
  show (#[UInt8.ofNat (48 + u)] ++ s.toArray : Array UInt8) = (UInt8.ofNat (48 + u) :: s).toArray
  simp
theorem fmt_loop (n : Int) (hn : 0 ≤ n) : ∀ (u : Nat) (s : List UInt8) (k : Nat), 0 < u → u + s.length ≤ 1000000 → Go.Lib.nDigits u + 1 < k → spec_FormatInt.l0 k n ⟨s.toArray⟩ (u : Int) = some ⟨(Go.Lib.decDigits u ++ s).toArray⟩ := by
  intro u
  induction u using Nat.strongRecOn with
  | _ u ih =>
    intro s k hu hs hk
    have hp := Go.Lib.nDigits_pos u
    obtain ⟨k, rfl⟩ : ∃ m, k = m + 2 := ⟨k - 2, by omega⟩
    have hm : Int.tmod (u : Int) 10 = ((u % 10 : Nat) : Int) := by rw [Int.tmod_eq_emod_of_nonneg (by omega)]; omega
    have hd : wrap64 (Int.tdiv (u : Int) 10) = ((u / 10 : Nat) : Int) := by rw [Int.tdiv_eq_ediv_of_nonneg (by omega), wrap_in (by omega) (by omega)]; omega
    have hsz : (strOfNums [(wrap64 (48 + ((u % 10 : Nat) : Int))) % 256]).size + (⟨s.toArray⟩ : ByteArray).size ≤ 9223372036854775807 := by
      rw [strOfNums_size]
      show 1 + s.toArray.size ≤ _
      rw [List.size_toArray]
      omega
    rw [spec_FormatInt.l0, if_neg (by omega), hm, if_neg (by omega), Option.bind_some, if_pos hsz, hd, digit_str _ _ (by omega)]
    by_cases h : u < 10
    · rw [spec_FormatInt.l0, if_pos (by omega), if_neg (by omega), Go.Lib.decDigits_one h, Nat.mod_eq_of_lt h]
      rfl
    · have hb := Go.Lib.nDigits_big h
      rw [ih (u / 10) (by omega) _ (k + 1) (by omega) (by rw [List.length_cons]; omega) (by omega)]
      congr 2
      conv => rhs; rw [Go.Lib.decDigits, dif_neg h]
      rw [List.append_assoc]
      rfl
theorem fmt1 (n : Int) (h0 : 0 ≤ n) (h1 : n ≤ 10000) (k : Nat) (hk : 10 < k) : spec_FormatInt.f k n = some (numT n) := by
  unfold spec_FormatInt.f
  obtain ⟨u, rfl⟩ : ∃ u : Nat, n = u := ⟨n.toNat, by omega⟩
  by_cases h : u = 0
  · subst h
    rw [if_pos (by simp)]
    unfold numT
    rw [itoa_nat, Go.Lib.decDigits_one (by omega)]
    rfl
  · have hd := nDigits_le 4 u (by omega)
    rw [if_neg (by omega)]
    have := fmt_loop (u : Int) (by omega) u [] k (by omega) (by simp; omega) (by omega)
    rw [List.append_nil] at this
    unfold numT
    rw [itoa_nat]
    exact this
theorem nodeOk_op {op a b : Int} {n : Nat} (h : nodeOk op a b n = true) : (n : Int) = arity op ∧ 0 ≤ a ∧ a ≤ amax op ∧ 0 ≤ b ∧ b ≤ bmax op ∧ 1 ≤ op ∧ op ≤ 9 := by
  unfold nodeOk at h
  simp only [Bool.and_eq_true, decide_eq_true_eq] at h
  obtain ⟨h1, ⟨h2, h3⟩, h4, h5⟩ := h
  refine ⟨h1, h2, h3, h4, h5, ?_⟩
  unfold arity at h1
  repeat' split at h1
  all_goals omega
theorem amax_le (op : Int) : amax op ≤ 10000 := by unfold amax; repeat' split; all_goals omega
theorem bmax_le (op : Int) : bmax op ≤ 10000 := by unfold bmax; split <;> omega
/-- The text of a valid condition has at most 64 letters a node. -/
theorem txt_size (N : Nat) : ∀ (a b c : Int) (l : List S31), nodesBS l ≤ N → nodeOk a b c l.length = true → okBS l = true → (txt ⟨a, b, c, l⟩).size ≤ 64 * (1 + nodesBS l) := by
  induction N using Nat.strongRecOn with
  | _ N ih =>
    intro op a b l hN ho hl
    obtain ⟨hn, a0, a1, b0, b1, o0, o1⟩ := nodeOk_op ho
    have am := amax_le op
    have bm := bmax_le op
    have za := sz_num a a0 (by omega)
    have zb := sz_num b b0 (by omega)
    rw [txt]
    have child : ∀ x ∈ l, (txt x).size ≤ 64 * nodesB x := by
      intro x hx
      have hlt := nodesB_lt l x hx
      have hp : 0 < l.length := List.length_pos_of_mem hx
      have hok : okB x = true := by
        rw [okBS_all, List.all_eq_true] at hl
        exact hl x hx
      rw [okB_eq, Bool.and_eq_true] at hok
      have := ih (N - 1) (by omega) x.f0 x.f1 x.f2 x.f3 (by omega) hok.1 hok.2
      rw [nodesB_eq, ← txt_eta]
      exact this
    unfold mkT
    have z7 := sz_nm 7
    have z8 := sz_nm 8
    have z9 := sz_nm 9
    have z1 := sz_nm 1
    have z3 := sz_nm 3
    have z6 := sz_nm 6
    have zo := sz_nm op.toNat
    by_cases h7 : op = 7
    · rw [if_pos h7]
      obtain ⟨x, rfl⟩ : ∃ x, l = [x] := one_of (by subst h7; unfold arity at hn; simp at hn; omega)
      have hx := child x (by simp)
      simp only [txtS, List.getD_cons_zero, ByteArray.size_append, sz_sp, nodesBS]
      omega
    rw [if_neg h7]
    by_cases h8 : op = 8
    · rw [if_pos h8]
      obtain ⟨x, y, rfl⟩ : ∃ x y, l = [x, y] := two_of (by subst h8; unfold arity at hn; simp at hn; omega)
      have hx := child x (by simp)
      have hy := child y (by simp)
      simp only [txtS, List.getD_cons_zero, List.getD_cons_succ, ByteArray.size_append, sz_sp, sz_open, sz_shut, nodesBS]
      omega
    rw [if_neg h8]
    by_cases h9 : op = 9
    · rw [if_pos h9]
      obtain ⟨x, y, rfl⟩ : ∃ x y, l = [x, y] := two_of (by subst h9; unfold arity at hn; simp at hn; omega)
      have hx := child x (by simp)
      have hy := child y (by simp)
      simp only [txtS, List.getD_cons_zero, List.getD_cons_succ, ByteArray.size_append, sz_sp, sz_open, sz_shut, nodesBS]
      omega
    rw [if_neg h9]
    split
    · omega
    · split
      · simp only [ByteArray.size_append, sz_sp]; omega
      · split
        · simp only [ByteArray.size_append, sz_sp]; omega
        · simp only [ByteArray.size_append, sz_sp]; omega
theorem name2 (op : Int) (o0 : 1 ≤ op) (o1 : op ≤ 9) : impl_CondName.f op = some (nm op.toNat) := by
  have h : op = 1 ∨ op = 2 ∨ op = 3 ∨ op = 4 ∨ op = 5 ∨ op = 6 ∨ op = 7 ∨ op = 8 ∨ op = 9 := by omega
  rcases h with rfl | rfl | rfl | rfl | rfl | rfl | rfl | rfl | rfl <;> rfl
theorem name1 (op : Int) (o0 : 1 ≤ op) (o1 : op ≤ 9) : spec_CondName.f op = some (nm op.toNat) := by
  unfold spec_CondName.f
  rw [in1, Option.bind_some, decide_eq_true ⟨o0, o1⟩, if_pos rfl, Option.bind_some, if_pos (by omega), if_pos (by simp; omega)]
  rfl
theorem rd0 (l : List S31) (x : S31) : rd_T31 (x :: l) 0 = x := rfl
theorem rd1 (l : List S31) (x y : S31) : rd_T31 (x :: y :: l) 1 = y := rfl
theorem fmtC (N : Nat) : ∀ (op a b : Int) (l : List S31) (k : Nat), nodesBS l ≤ N → N ≤ 100 → nodeOk op a b l.length = true → okBS l = true → 4 * N + 8 < k → impl_formatCond.f k op a b l = some (txt ⟨op, a, b, l⟩) := by
  induction N using Nat.strongRecOn with
  | _ N ih =>
    intro op a b l k hN hN2 ho hl hk
    obtain ⟨hn, a0, a1, b0, b1, o0, o1⟩ := nodeOk_op ho
    have am := amax_le op
    have bm := bmax_le op
    have za := sz_num a a0 (by omega)
    have zb := sz_num b b0 (by omega)
    obtain ⟨k, rfl⟩ : ∃ m, k = m + 1 + 1 + 1 + 1 := ⟨k - 4, by omega⟩
    have child : ∀ x ∈ l, ∀ j, 4 * N + 4 < j → impl_formatCond.f j x.f0 x.f1 x.f2 x.f3 = some (txt x) ∧ (txt x).size ≤ 6464 := by
      intro x hx j hj
      have hlt := nodesB_lt l x hx
      have hp : 0 < l.length := List.length_pos_of_mem hx
      have hok : okB x = true := by
        rw [okBS_all, List.all_eq_true] at hl
        exact hl x hx
      rw [okB_eq, Bool.and_eq_true] at hok
      rw [← txt_eta]
      refine ⟨ih (N - 1) (by omega) x.f0 x.f1 x.f2 x.f3 j (by omega) (by omega) hok.1 hok.2 (by omega), ?_⟩
      have := txt_size (nodesBS x.f3) x.f0 x.f1 x.f2 x.f3 (Nat.le_refl _) hok.1 hok.2
      omega
    have zo := sz_nm op.toNat
    rw [impl_formatCond.f, name2 op o0 o1, Option.bind_some, txt, mkT]
    by_cases h7 : op = 7
    · rw [if_pos h7, if_pos h7]
      subst h7
      obtain ⟨x, rfl⟩ : ∃ x, l = [x] := one_of (by unfold arity at hn; simp at hn; omega)
      obtain ⟨ex, hx⟩ := child x (by simp) (k + 1 + 1 + 1) (by omega)
      rw [if_pos (by omega), if_pos (by simp), rd0, ex, Option.bind_some, if_pos (by simp only [ByteArray.size_append, sz_blank]; omega)]
      rfl
    rw [if_neg h7, if_neg h7]
    by_cases h8 : op = 8
    · rw [if_pos h8, if_pos h8]
      subst h8
      obtain ⟨x, y, rfl⟩ : ∃ x y, l = [x, y] := two_of (by unfold arity at hn; simp at hn; omega)
      obtain ⟨ex, hx⟩ := child x (by simp) (k + 1 + 1) (by omega)
      obtain ⟨ey, hy⟩ := child y (by simp) (k + 1 + 1) (by omega)
      rw [impl_formatCond.j0, if_pos (show ((8 : Int) == 8) = true from rfl), if_pos (by simp), rd0, ex, Option.bind_some, if_pos (by omega), if_pos (by simp only [ByteArray.size_append, sz_open]; omega), if_pos (by simp only [ByteArray.size_append, sz_open, sz_blank]; omega), if_pos (by simp only [ByteArray.size_append, sz_open, sz_blank]; omega), if_pos (by simp), rd1, ey, Option.bind_some, if_pos (by simp only [ByteArray.size_append, sz_open, sz_blank]; omega), if_pos (by simp only [ByteArray.size_append, sz_open, sz_blank]; omega)]
      rfl
    rw [if_neg h8, if_neg h8]
    by_cases h9 : op = 9
    · rw [if_pos h9]
      subst h9
      obtain ⟨x, y, rfl⟩ : ∃ x y, l = [x, y] := two_of (by unfold arity at hn; simp at hn; omega)
      obtain ⟨ex, hx⟩ := child x (by simp) (k + 1 + 1) (by omega)
      obtain ⟨ey, hy⟩ := child y (by simp) (k + 1 + 1) (by omega)
      rw [impl_formatCond.j0, if_pos (show ((9 : Int) == 9) = true from rfl), if_pos (by simp), rd0, ex, Option.bind_some, if_pos (by omega), if_pos (by simp only [ByteArray.size_append, sz_open]; omega), if_pos (by simp only [ByteArray.size_append, sz_open, sz_blank]; omega), if_pos (by simp only [ByteArray.size_append, sz_open, sz_blank]; omega), if_pos (by simp), rd1, ey, Option.bind_some, if_pos (by simp only [ByteArray.size_append, sz_open, sz_blank]; omega), if_pos (by simp only [ByteArray.size_append, sz_open, sz_blank]; omega)]
      rfl
    rw [if_neg h9, impl_formatCond.j0, if_neg (by simp; omega)]
    have ea := fmt2 a a0 (by omega)
    have eb := fmt2 b b0 (by omega)
    have two : ∀ s : ByteArray, s.size ≤ 20 → impl_formatCond.j2 (k + 1) s op a b l = some (if 2 ≤ op ∧ op ≤ 5 then s ++ (sp ++ numT b) else s) := by
      intro s hs
      rw [impl_formatCond.j2, in2, Option.bind_some]
      by_cases hr : 2 ≤ op ∧ op ≤ 5
      · rw [decide_eq_true hr, if_pos rfl, if_pos hr, eb, Option.bind_some, if_pos (by omega), if_pos (by simp only [ByteArray.size_append, sz_blank]; omega)]
        rfl
      · rw [decide_eq_false hr, if_neg (by simp), if_neg hr]
    by_cases h1 : op = 1
    · rw [if_pos h1, if_pos h1, impl_formatCond.j1, if_neg (by simp), two _ (by omega), if_neg (by omega)]
      subst h1
      rfl
    rw [if_neg h1, if_neg h1, impl_formatCond.j1]
    by_cases h3 : op = 3
    · rw [if_neg (by simp [h3]), two _ (by omega), if_pos (by omega), if_pos h3]
      subst h3
      rfl
    rw [if_pos (by simp [h3]), ea, Option.bind_some, if_pos (by omega), if_pos (by simp only [ByteArray.size_append, sz_blank]; omega), two _ (by simp only [ByteArray.size_append, sz_blank]; omega), if_neg h3]
    by_cases h6 : op = 6
    · rw [if_neg (by omega), if_pos h6]
      subst h6
      rfl
    · rw [if_pos (by omega), if_neg h6]
      rfl
theorem l16C (N : Nat) : ∀ (op a b : Int) (l : List S31) (k : Nat), nodesBS l ≤ N → N ≤ 100 → nodeOk op a b l.length = true → okBS l = true → 3 * N + 20 < k → spec_l16Text.f k op a b l = some (txt ⟨op, a, b, l⟩) := by
  induction N using Nat.strongRecOn with
  | _ N ih =>
    intro op a b l k hN hN2 ho hl hk
    obtain ⟨hn, a0, a1, b0, b1, o0, o1⟩ := nodeOk_op ho
    have am := amax_le op
    have bm := bmax_le op
    have za := sz_num a a0 (by omega)
    have zb := sz_num b b0 (by omega)
    obtain ⟨k, rfl⟩ : ∃ m, k = m + 1 + 1 + 1 := ⟨k - 3, by omega⟩
    have child : ∀ x ∈ l, ∀ j, 3 * N + 17 < j → spec_l16Text.f j x.f0 x.f1 x.f2 x.f3 = some (txt x) ∧ (txt x).size ≤ 6464 := by
      intro x hx j hj
      have hlt := nodesB_lt l x hx
      have hp : 0 < l.length := List.length_pos_of_mem hx
      have hok : okB x = true := by
        rw [okBS_all, List.all_eq_true] at hl
        exact hl x hx
      rw [okB_eq, Bool.and_eq_true] at hok
      rw [← txt_eta]
      refine ⟨ih (N - 1) (by omega) x.f0 x.f1 x.f2 x.f3 j (by omega) (by omega) hok.1 hok.2 (by omega), ?_⟩
      have := txt_size (nodesBS x.f3) x.f0 x.f1 x.f2 x.f3 (Nat.le_refl _) hok.1 hok.2
      omega
    have zo := sz_nm op.toNat
    have ea := fmt1 a a0 (by omega) (k + 1) (by omega)
    have eb := fmt1 b b0 (by omega) (k + 1) (by omega)
    have J : ∀ c : Bool, c = decide (op = 2 ∨ op = 4 ∨ op = 5) → spec_l16Text.j0 (k + 1 + 1) (nm op.toNat) op c op a b l = some (mkT op a b (txtS l)) := by
      intro c hc
      subst hc
      rw [spec_l16Text.j0, mkT]
      by_cases h2 : op = 2 ∨ op = 4 ∨ op = 5
      · rw [decide_eq_true h2, if_pos rfl, if_pos (by omega), ea, Option.bind_some, if_pos (by simp only [ByteArray.size_append, sz_blank]; omega), if_pos (by simp only [ByteArray.size_append, sz_blank]; omega), eb, Option.bind_some, if_pos (by simp only [ByteArray.size_append, sz_blank]; omega)]
        rw [if_neg (by omega), if_neg (by omega), if_neg (by omega), if_neg (by omega), if_neg (by omega), if_neg (by omega)]
        simp only [ByteArray.append_assoc]
        rfl
      rw [decide_eq_false h2, if_neg (by simp)]
      by_cases h3 : op = 3
      · rw [if_pos h3, if_pos (by omega), eb, Option.bind_some, if_pos (by simp only [ByteArray.size_append, sz_blank]; omega)]
        subst h3
        rw [if_neg (by omega), if_neg (by omega), if_neg (by omega), if_neg (by omega), if_pos rfl]
        simp only [ByteArray.append_assoc]
        rfl
      rw [if_neg h3]
      by_cases h6 : op = 6
      · rw [if_pos h6, if_pos (by omega), ea, Option.bind_some, if_pos (by simp only [ByteArray.size_append, sz_blank]; omega)]
        subst h6
        rw [if_neg (by omega), if_neg (by omega), if_neg (by omega), if_neg (by omega), if_neg (by omega), if_pos rfl]
        simp only [ByteArray.append_assoc]
        rfl
      rw [if_neg h6]
      by_cases h7 : op = 7
      · rw [if_pos h7, if_pos h7]
        subst h7
        obtain ⟨x, rfl⟩ : ∃ x, l = [x] := one_of (by unfold arity at hn; simp at hn; omega)
        obtain ⟨ex, hx⟩ := child x (by simp) (k + 1) (by omega)
        rw [if_pos (by omega), if_pos (by simp), rd0, ex, Option.bind_some, if_pos (by simp only [ByteArray.size_append, sz_blank]; omega)]
        rfl
      rw [if_neg h7, if_neg h7]
      by_cases h8 : op = 8
      · rw [if_pos h8, if_pos h8]
        subst h8
        obtain ⟨x, y, rfl⟩ : ∃ x y, l = [x, y] := two_of (by unfold arity at hn; simp at hn; omega)
        obtain ⟨ex, hx⟩ := child x (by simp) k (by omega)
        obtain ⟨ey, hy⟩ := child y (by simp) k (by omega)
        rw [spec_l16Text.j1, if_pos (show ((8 : Int) == 8) = true from rfl), if_pos (by simp), rd0, ex, Option.bind_some, if_pos (by omega), if_pos (by simp only [ByteArray.size_append, sz_open]; omega), if_pos (by simp only [ByteArray.size_append, sz_open, sz_blank]; omega), if_pos (by simp only [ByteArray.size_append, sz_open, sz_blank]; omega), if_pos (by simp), rd1, ey, Option.bind_some, if_pos (by simp only [ByteArray.size_append, sz_open, sz_blank]; omega), if_pos (by simp only [ByteArray.size_append, sz_open, sz_blank]; omega)]
        rfl
      rw [if_neg h8, if_neg h8, spec_l16Text.j1]
      by_cases h9 : op = 9
      · rw [if_pos (by simp [h9]), if_pos h9]
        subst h9
        obtain ⟨x, y, rfl⟩ : ∃ x y, l = [x, y] := two_of (by unfold arity at hn; simp at hn; omega)
        obtain ⟨ex, hx⟩ := child x (by simp) k (by omega)
        obtain ⟨ey, hy⟩ := child y (by simp) k (by omega)
        rw [if_pos (by simp), rd0, ex, Option.bind_some, if_pos (by omega), if_pos (by simp only [ByteArray.size_append, sz_open]; omega), if_pos (by simp only [ByteArray.size_append, sz_open, sz_blank]; omega), if_pos (by simp only [ByteArray.size_append, sz_open, sz_blank]; omega), if_pos (by simp), rd1, ey, Option.bind_some, if_pos (by simp only [ByteArray.size_append, sz_open, sz_blank]; omega), if_pos (by simp only [ByteArray.size_append, sz_open, sz_blank]; omega)]
        rfl
      have h1 : op = 1 := by omega
      rw [if_neg (by simp [h9]), if_neg h9, if_pos h1]
      subst h1
      rfl
    rw [spec_l16Text.f, name1 op o0 o1, Option.bind_some, txt]
    by_cases h2 : op = 2
    · rw [if_pos h2]
      exact J _ (by rw [h2]; rfl)
    rw [if_neg h2]
    by_cases h4 : op = 4
    · rw [if_pos h4]
      exact J _ (by rw [h4]; rfl)
    rw [if_neg h4]
    exact J _ (by rw [Bool.eq_iff_iff]; simp [h2, h4])
/-- Is it a condition? -/
def okC (a b c : Int) (l : List S31) : Bool := decide (1 + nodesBS l ≤ 15) && (nodeOk a b c l.length && okBS l)
theorem isCond1 (a b c : Int) (l : List S31) (k : Nat) (hl : nodesBS l ≤ 1048576) (hk : 7 * nodesBS l + 20 < k) : spec_IsCond.f k a b c l = some (okC a b c l) := by
  obtain ⟨r, e, hr, _⟩ := left1 (nodesBS l) a b c l 15 k (Nat.le_refl _) (by omega) (by omega) (by omega) (by omega)
  rw [spec_IsCond.f, e, Option.bind_some, valid1 (nodesBS l) a b c l k (Nat.le_refl _) (by omega) (by omega)]
  unfold leftOk at hr
  unfold okC
  split at hr
  · rw [if_pos (by omega), decide_eq_true (by omega), Bool.true_and]
    rfl
  · rw [if_neg (by omega), decide_eq_false (by omega), Bool.false_and]
theorem isCond2 (a b c : Int) (l : List S31) (k : Nat) (hl : nodesBS l ≤ 1048576) (hk : 7 * nodesBS l + 20 < k) : impl_IsCond.f k a b c l = some (okC a b c l) := by
  rw [impl_IsCond.f, size2 (nodesBS l) a b c l k (Nat.le_refl _) (by omega) (by omega), Option.bind_some, valid2 (nodesBS l) a b c l k (Nat.le_refl _) (by omega) (by omega)]
  unfold okC
  split
  · rw [decide_eq_true (by omega), Bool.true_and]
    rfl
  · rw [decide_eq_false (by omega), Bool.false_and]
/-- The text of a condition; of what is none the empty text. -/
def fmtT (a b c : Int) (l : List S31) : ByteArray := if okC a b c l = true then txt ⟨a, b, c, l⟩ else ⟨#[]⟩
theorem format1 (a b c : Int) (l : List S31) (k : Nat) (hl : nodesBS l ≤ 1048576) (hk : 7 * nodesBS l + 100 < k) : spec_FormatCond.f k a b c l = some (fmtT a b c l) := by
  rw [spec_FormatCond.f, isCond1 a b c l k hl (by omega), Option.bind_some]
  unfold fmtT
  by_cases h : okC a b c l = true
  · rw [if_pos h, if_pos h]
    unfold okC at h
    simp only [Bool.and_eq_true, decide_eq_true_eq] at h
    rw [l16C (nodesBS l) a b c l k (Nat.le_refl _) (by omega) h.2.1 h.2.2 (by omega)]
    rfl
  · rw [if_neg h, if_neg h]
theorem format2 (a b c : Int) (l : List S31) (k : Nat) (hl : nodesBS l ≤ 1048576) (hk : 7 * nodesBS l + 100 < k) : impl_FormatCond.f k a b c l = some (fmtT a b c l) := by
  rw [impl_FormatCond.f, isCond2 a b c l k hl (by omega), Option.bind_some]
  unfold fmtT
  by_cases h : okC a b c l = true
  · rw [if_pos h, if_pos h]
    unfold okC at h
    simp only [Bool.and_eq_true, decide_eq_true_eq] at h
    rw [fmtC (nodesBS l) a b c l k (Nat.le_refl _) (by omega) h.2.1 h.2.2 (by omega)]
    rfl
  · rw [if_neg h, if_neg h]
theorem FnExactFormatCond : laws_FnExactFormatCond.Pure := by
  intro a b c l _ _ _ hw
  suffices h : ∀ k, 7 * nodesAS l + 120 < k → laws_FnExactFormatCond.f k a b c l = some true from ⟨7 * nodesAS l + 121, h _ (by omega)⟩
  intro k hk
  unfold laws_FnExactFormatCond.f
  rw [szCond_of a b c l 1048576 k hw.2 hw.1 (by omega) (by omega) (by omega), Option.bind_some]
  by_cases h : (nodesAS l : Int) ≤ 1048576
  · have hn : nodesBS (cvCondS l) = nodesAS l := cv_nodes _ l (Nat.le_refl _)
    rw [if_pos h, if_neg (by omega)]
    simp only [toCond_of a b c l k (by omega) (by omega), format1 a b c (cvCondS l) k (by omega) (by omega), format2 a b c (cvCondS l) k (by omega) (by omega), eqCond_of a b c (cvCondS l) k (by omega) (by omega), Option.bind_some, if_true]
  · rw [if_neg h, if_pos (by omega)]
end Go.Proofs.YtnjobmbjeknlbaaDoor.Pure
