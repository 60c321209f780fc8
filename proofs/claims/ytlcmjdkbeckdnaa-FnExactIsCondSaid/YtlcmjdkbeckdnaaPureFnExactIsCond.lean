/- FnExactIsCond: the program's IsCond answers what the reference's answers, for every condition. Conditions: none. -/
import Derived.Test.YtlcmjdkbeckdnaaLib
import Derived.Test.YtlcmjdkbeckdnaaXFnExactIsCondx4
namespace Go.Proofs.Ytlcmjdkbeckdnaa.Pure
open Go.RowKit Go.Proofs.Ytlcmjdkbeckdnaa.XFnExactIsCond Go.Proofs.YtlcmjdkbeckdnaaW.PrintWords
set_option linter.unusedVariables false
set_option linter.unusedSimpArgs false
open Go.Proofs.YtlcmjdkbeckdnaaLib
/-! ### Trees: how many nodes, and how many rounds -/
mutual
def nodesA : S24 → Nat
  | ⟨_, _, _, l⟩ => 1 + nodesAS l
def nodesAS : List S24 → Nat
  | [] => 0
  | x :: l => nodesA x + nodesAS l
end
mutual
def nodesB : S29 → Nat
  | ⟨_, _, _, l⟩ => 1 + nodesBS l
def nodesBS : List S29 → Nat
  | [] => 0
  | x :: l => nodesB x + nodesBS l
end
theorem nodesA_eq (x : S24) : nodesA x = 1 + nodesAS x.f3 := by cases x; rw [nodesA]
theorem nodesB_eq (x : S29) : nodesB x = 1 + nodesBS x.f3 := by cases x; rw [nodesB]
theorem nodesAS_sum (l : List S24) : nodesAS l = (l.map nodesA).sum := by
  induction l with
  | nil => rw [nodesAS]; rfl
  | cons x l ih => rw [nodesAS, ih]; rfl
theorem nodesBS_sum (l : List S29) : nodesBS l = (l.map nodesB).sum := by
  induction l with
  | nil => rw [nodesBS]; rfl
  | cons x l ih => rw [nodesBS, ih]; rfl
theorem nodesAS_below (l : List S24) : nodesAS l = l.length + (l.map fun x => nodesAS x.f3).sum := by
  induction l with
  | nil => rw [nodesAS]; rfl
  | cons x l ih =>
    rw [nodesAS, ih, nodesA_eq, List.map_cons, List.sum_cons, List.length_cons]
    omega
theorem nodesBS_below (l : List S29) : nodesBS l = l.length + (l.map fun x => nodesBS x.f3).sum := by
  induction l with
  | nil => rw [nodesBS]; rfl
  | cons x l ih =>
    rw [nodesBS, ih, nodesB_eq, List.map_cons, List.sum_cons, List.length_cons]
    omega
theorem nodesA_lt (l : List S24) (x : S24) (h : x ∈ l) : nodesAS x.f3 + l.length ≤ nodesAS l := by
  have := le_sum (fun x : S24 => nodesAS x.f3) l x h
  rw [nodesAS_below l]
  omega
theorem nodesB_lt (l : List S29) (x : S29) (h : x ∈ l) : nodesBS x.f3 + l.length ≤ nodesBS l := by
  have := le_sum (fun x : S29 => nodesBS x.f3) l x h
  rw [nodesBS_below l]
  omega
theorem rdCA (l : List S24) (i : Nat) : rd_T24 l (i : Int) = l.getD i z24 := by
  unfold rd_T24
  rw [Int.toNat_natCast]
theorem rdCB (l : List S29) (i : Nat) : rd_T29 l (i : Int) = l.getD i z29 := by
  unfold rd_T29
  rw [Int.toNat_natCast]
/-! ### The size that is left -/
theorem szCondS_of (N : Nat) : ∀ (l : List S24) (a : Int) (k : Nat), nodesAS l ≤ N → (∀ x ∈ l, wf24 x) → l.length ≤ maxLen → 0 ≤ a → a ≤ 1048576 → 4 * N + 4 < k → laws_szCondS.f k l a = some (if (nodesAS l : Int) ≤ a then a - (nodesAS l : Int) else -1) := by
  induction N using Nat.strongRecOn with
  | _ N ih =>
    intro l a k hN hw hlen h0 h1 hk
    obtain ⟨k, rfl⟩ : ∃ m, k = m + 1 := ⟨k - 1, by omega⟩
    simp only [laws_szCondS.f]
    unfold maxLen at hlen
    have hb := nodesAS_below l
    rw [wrap_in (by omega) (by omega)]
    by_cases h : (l.length : Int) ≤ a
    · rw [if_neg (by omega), hb]
      rcases Nat.eq_zero_or_pos l.length with hz | hz
      · obtain rfl : l = [] := List.eq_nil_of_length_eq_zero hz
        obtain ⟨k, rfl⟩ : ∃ m, k = m + 1 := ⟨k - 1, by omega⟩
        rw [laws_szCondS.l0, if_neg (by simp)]
        simp [h0]
      have hx : ∀ k i a', 4 * (N - l.length) + 6 ≤ k → i < l.length → 0 ≤ a' → a' ≤ 1048576 → laws_szCondS.l0 (k + 1) l a' (i : Int) = if (nodesAS (l.getD i z24).f3 : Int) ≤ a' then laws_szCondS.l0 k l (a' - (nodesAS (l.getD i z24).f3 : Int)) ((i + 1 : Nat) : Int) else some (-1) := by
        intro k i a' hk hi g0 g1
        obtain ⟨k, rfl⟩ : ∃ m, k = m + 1 := ⟨k - 1, by omega⟩
        have hm := getD_mem l i z24 hi
        have hlt := nodesA_lt l _ hm
        have hww := hw _ hm
        rw [laws_szCondS.l0, if_pos (by omega), if_pos (by omega), rdCA, laws_szCond.f]
        generalize l.getD i z24 = x at hm hlt hww ⊢
        cases hww with
        | mk f0 f1 f2 f3 _ _ _ hl3 hw3 =>
          simp only at hlt ⊢
          rw [ih (N - l.length) (by omega) f3 a' k (by omega) hw3 hl3 g0 g1 (by omega), Option.bind_some, wrap_succ hi (by omega)]
          by_cases g : (nodesAS f3 : Int) ≤ a'
          · rw [if_pos g, if_neg (by omega), Option.bind_some, if_neg (by omega), if_pos g]
          · rw [if_neg g, if_pos (by omega), Option.bind_some, if_pos (by omega), if_neg g]
      rw [szLoop (fun k a i => laws_szCondS.l0 k l a i) l z24 (fun x => nodesAS x.f3) (4 * (N - l.length) + 6) 1048576 hx ?_ k (a - (l.length : Int)) (by omega) (by omega) (by omega)]
      · generalize (l.map fun x => nodesAS x.f3).sum = s
        by_cases g : (s : Int) ≤ a - (l.length : Int)
        · rw [if_pos g, if_pos (by omega)]; congr 1; omega
        · rw [if_neg g, if_neg (by omega)]
      · intro k a' _
        simp only [laws_szCondS.l0]
        rw [if_neg (by omega)]
    · rw [if_pos (by omega), if_neg (by omega)]
theorem szCond_of (a b c : Int) (l : List S24) (n : Int) (k : Nat) (hw : ∀ x ∈ l, wf24 x) (hlen : l.length ≤ maxLen) (h0 : 0 ≤ n) (h1 : n ≤ 1048576) (hk : 4 * nodesAS l + 5 < k) : laws_szCond.f k a b c l n = some (if (nodesAS l : Int) ≤ n then n - (nodesAS l : Int) else -1) := by
  obtain ⟨k, rfl⟩ : ∃ m, k = m + 1 := ⟨k - 1, by omega⟩
  simp only [laws_szCond.f]
  rw [szCondS_of (nodesAS l) l n k (Nat.le_refl _) hw hlen h0 h1 (by omega), Option.bind_some]
  by_cases g : (nodesAS l : Int) ≤ n
  · rw [if_pos g, if_neg (by omega)]
  · rw [if_neg g, if_pos (by omega)]
/-! ### The tree that the program reads -/
mutual
def cvCond : S24 → S29
  | ⟨a, b, c, l⟩ => ⟨a, b, c, cvCondS l⟩
def cvCondS : List S24 → List S29
  | [] => []
  | x :: l => cvCond x :: cvCondS l
end
theorem cvCond_eq (x : S24) : cvCond x = ⟨x.f0, x.f1, x.f2, cvCondS x.f3⟩ := by cases x; rw [cvCond]
theorem cvCondS_map (l : List S24) : cvCondS l = l.map cvCond := by
  induction l with
  | nil => rw [cvCondS]; rfl
  | cons x l ih => rw [cvCondS, ih]; rfl
theorem cv_nodes (N : Nat) : ∀ l : List S24, nodesAS l ≤ N → nodesBS (cvCondS l) = nodesAS l := by
  induction N with
  | zero =>
    intro l h
    have := nodesAS_below l
    obtain rfl : l = [] := List.eq_nil_of_length_eq_zero (by omega)
    rw [cvCondS, nodesBS, nodesAS]
  | succ N ih =>
    intro l
    induction l with
    | nil => intro _; rw [cvCondS, nodesBS, nodesAS]
    | cons x l il =>
      intro h
      rw [nodesAS] at h
      have hx := nodesA_eq x
      rw [cvCondS, nodesBS, nodesAS, il (by omega), nodesB_eq, cvCond_eq, ih x.f3 (by omega), hx]
theorem toCondS_of (N : Nat) : ∀ (l : List S24) (k : Nat), nodesAS l ≤ N → N ≤ 1048576 → 4 * N + 4 < k → laws_toCondS.f k l = some (cvCondS l) := by
  induction N using Nat.strongRecOn with
  | _ N ih =>
    intro l k hN hN2 hk
    obtain ⟨k, rfl⟩ : ∃ m, k = m + 1 := ⟨k - 1, by omega⟩
    have hb := nodesAS_below l
    simp only [laws_toCondS.f]
    rw [if_pos (by omega), if_pos (by omega), Int.toNat_natCast, cvCondS_map]
    rcases Nat.eq_zero_or_pos l.length with hz | hz
    · obtain rfl : l = [] := List.eq_nil_of_length_eq_zero hz
      obtain ⟨k, rfl⟩ : ∃ m, k = m + 1 := ⟨k - 1, by omega⟩
      simp [laws_toCondS.l0]
    refine (run (fun k s i => laws_toCondS.l0 k l s i) (put (fun i => cvCond (l.getD i z24)) (List.replicate l.length z29)) l.length (4 * (N - l.length) + 6) (l.map cvCond) ?_ ?_ k (by omega))
    · intro k i hk hi
      obtain ⟨k, rfl⟩ : ∃ m, k = m + 1 := ⟨k - 1, by omega⟩
      have hlen : (put (fun i => cvCond (l.getD i z24)) (List.replicate l.length z29) i).length = l.length := by rw [put_length _ _ _ (by simp; omega), List.length_replicate]
      have hlt := nodesA_lt l _ (getD_mem l i z24 hi)
      rw [laws_toCondS.l0, if_pos (by omega), if_pos (by omega), rdCA, laws_toCond.f, ih (N - l.length) (by omega) _ k (by omega) (by omega) (by omega), Option.bind_some, Option.bind_some, if_pos (by omega), wrap_succ hi (by omega), Int.toNat_natCast]
      rw [← cvCond_eq, put_set (fun i => cvCond (l.getD i z24)) _ i (by simp; omega)]
    · intro k _
      simp only [laws_toCondS.l0]
      rw [if_neg (by omega), put_all _ _ (by simp), map_range_getD l z24 cvCond]
theorem toCond_of (a b c : Int) (l : List S24) (k : Nat) (h : nodesAS l ≤ 1048576) (hk : 4 * nodesAS l + 5 < k) : laws_toCond.f k a b c l = some (a, b, c, cvCondS l) := by
  obtain ⟨k, rfl⟩ : ∃ m, k = m + 1 := ⟨k - 1, by omega⟩
  simp only [laws_toCond.f]
  rw [toCondS_of (nodesAS l) l k (Nat.le_refl _) h (by omega), Option.bind_some]
/-! ### A tree is the same as itself -/
theorem eqCondS_of (N : Nat) : ∀ (l : List S29) (k : Nat), nodesBS l ≤ N → N ≤ 1048576 → 4 * N + 4 < k → laws_eqCondS.f k l l = some true := by
  induction N using Nat.strongRecOn with
  | _ N ih =>
    intro l k hN hN2 hk
    obtain ⟨k, rfl⟩ : ∃ m, k = m + 1 := ⟨k - 1, by omega⟩
    have hb := nodesBS_below l
    rw [laws_eqCondS.f, if_pos rfl]
    rcases Nat.eq_zero_or_pos l.length with hz | hz
    · obtain rfl : l = [] := List.eq_nil_of_length_eq_zero hz
      obtain ⟨k, rfl⟩ : ∃ m, k = m + 1 := ⟨k - 1, by omega⟩
      simp [laws_eqCondS.l0]
    refine (run (fun k (_ : Unit) i => laws_eqCondS.l0 k l l i) (fun _ => ()) l.length (4 * (N - l.length) + 6) true ?_ ?_ k (by omega))
    · intro k i hk hi
      obtain ⟨k, rfl⟩ : ∃ m, k = m + 1 := ⟨k - 1, by omega⟩
      have hlt := nodesB_lt l _ (getD_mem l i z29 hi)
      rw [laws_eqCondS.l0, if_pos (by omega), if_pos (by omega), if_pos (by omega), rdCB, laws_eqCond.f, if_pos rfl, if_pos rfl, if_pos rfl, ih (N - l.length) (by omega) _ k (by omega) (by omega) (by omega), Option.bind_some, if_pos rfl, Option.bind_some, if_pos rfl, wrap_succ hi (by omega)]
    · intro k _
      simp only [laws_eqCondS.l0]
      rw [if_neg (by omega)]
theorem eqCond_of (a b c : Int) (l : List S29) (k : Nat) (h : nodesBS l ≤ 1048576) (hk : 4 * nodesBS l + 5 < k) : laws_eqCond.f k a b c l a b c l = some true := by
  obtain ⟨k, rfl⟩ : ∃ m, k = m + 1 := ⟨k - 1, by omega⟩
  simp only [laws_eqCond.f, if_true]
  rw [eqCondS_of (nodesBS l) l k (Nat.le_refl _) h (by omega), Option.bind_some, if_pos rfl]
theorem size2 (N : Nat) : ∀ (a b c : Int) (l : List S29) (k : Nat), nodesBS l ≤ N → N ≤ 1048576 → 4 * N + 4 < k → impl_SizeOf.f k a b c l = some (1 + (nodesBS l : Int)) := by
  induction N using Nat.strongRecOn with
  | _ N ih =>
    intro a b c l k hN hN2 hk
    obtain ⟨k, rfl⟩ : ∃ m, k = m + 1 := ⟨k - 1, by omega⟩
    have hb := nodesBS_below l
    simp only [impl_SizeOf.f]
    rcases Nat.eq_zero_or_pos l.length with hz | hz
    · obtain rfl : l = [] := List.eq_nil_of_length_eq_zero hz
      obtain ⟨k, rfl⟩ : ∃ m, k = m + 1 := ⟨k - 1, by omega⟩
      simp [impl_SizeOf.l0, nodesBS]
    have h := run (fun k s i => impl_SizeOf.l0 k s l (l.length : Int) i) (fun i => 1 + (((l.take i).map nodesB).sum : Int)) l.length (4 * (N - l.length) + 6) (1 + (nodesBS l : Int)) ?_ ?_ k (by omega)
    · simpa using h
    · intro k i hk hi
      have hm := getD_mem l i z29 hi
      have hlt := nodesB_lt l _ hm
      have hle : ((l.take i).map nodesB).sum + nodesB (l.getD i z29) = ((l.take (i + 1)).map nodesB).sum := by
        rw [List.take_succ_eq_append_getElem hi, List.map_append, List.sum_append, getD_get l i _ hi]
        simp
      have hle2 : ((l.take (i + 1)).map nodesB).sum ≤ nodesBS l := by
        rw [nodesBS_sum]
        have h3 : (l.map nodesB).sum = ((l.take (i + 1)).map nodesB).sum + ((l.drop (i + 1)).map nodesB).sum := by rw [← List.sum_append, ← List.map_append, List.take_append_drop]
        omega
      have hn := nodesB_eq (l.getD i z29)
      simp only [impl_SizeOf.l0, rdCB]
      rw [if_pos (by omega), if_pos (by omega), if_pos (by omega), ih (N - l.length) (by omega) _ _ _ _ k (by omega) (by omega) (by omega), Option.bind_some, wrap_succ hi (by omega), wrap_in (by omega) (by omega)]
      congr 1
      omega
    · intro k _
      simp only [impl_SizeOf.l0]
      rw [if_neg (by omega), List.take_of_length_le (Nat.le_refl _), nodesBS_sum]
theorem in1 (x y z : Int) : spec_l1In.f x y z = some (decide (y ≤ x ∧ x ≤ z)) := by
  unfold spec_l1In.f
  by_cases h : x ≥ y
  · rw [if_pos h]; simp [show y ≤ x from h]
  · rw [if_neg h]; simp; omega
theorem in2 (x y z : Int) : impl_InRange.f x y z = some (decide (y ≤ x ∧ x ≤ z)) := by
  unfold impl_InRange.f
  by_cases h : y ≤ x
  · rw [if_pos h]; simp [h]
  · rw [if_neg h]; simp; omega
def arity (op : Int) : Int := if op = 7 then 1 else if op = 8 then 2 else if op = 9 then 2 else if 1 ≤ op ∧ op ≤ 6 then 0 else -1
def amax (op : Int) : Int := if op = 2 then 5 else if op = 4 then 3 else if op = 5 then 3 else if op = 6 then 10000 else 0
def bmax (op : Int) : Int := if 2 ≤ op ∧ op ≤ 5 then 10000 else 0
def nodeOk (op a b : Int) (n : Nat) : Bool := decide ((n : Int) = arity op) && (decide (0 ≤ a ∧ a ≤ amax op) && decide (0 ≤ b ∧ b ≤ bmax op))
theorem arity2 (op : Int) (k : Nat) : impl_ArityOf.f (k + 1) op = some (arity op) := by
  simp only [impl_ArityOf.f, impl_ArityOf.j0, in2, Option.bind_some]
  unfold arity
  by_cases h7 : op = 7
  · simp [h7]
  by_cases h8 : op = 8
  · simp [h8]
  by_cases h9 : op = 9
  · simp [h9]
  by_cases h : 1 ≤ op ∧ op ≤ 6
  · simp [h7, h8, h9, h]
  · simp [h7, h8, h9, h]
theorem arity1 (op : Int) (k : Nat) : spec_ArityOf.f (k + 1) op = some (arity op) := by
  simp only [spec_ArityOf.f, spec_ArityOf.j0]
  unfold arity
  by_cases h1 : op = 1
  · simp [h1]
  by_cases h2 : op = 2
  · simp [h2]
  by_cases h3 : op = 3
  · simp [h3]
  by_cases h4 : op = 4
  · simp [h4]
  by_cases h5 : op = 5
  · simp [h5]
  by_cases h6 : op = 6
  · simp [h6]
  have h : ¬ (1 ≤ op ∧ op ≤ 6) := by omega
  simp only [h1, h2, h3, h4, h5, h6, h, if_false, beq_iff_eq]
  split
  · rfl
  · split
    · rfl
    · split <;> rfl
theorem node2 (op a b : Int) (l : List S29) (k : Nat) : impl_isNode.f (k + 1 + 1 + 1) op a b l = some (nodeOk op a b l.length) := by
  simp only [impl_isNode.f, impl_isNode.j0, impl_isNode.j1, arity2, in2, Option.bind_some]
  unfold nodeOk amax bmax
  generalize arity op = z
  by_cases h2 : op = 2
  · subst h2; by_cases hz : (l.length : Int) = z <;> simp [hz] <;> (split <;> rename_i hp <;> simp [hp] <;> omega)
  by_cases h4 : op = 4
  · subst h4; by_cases hz : (l.length : Int) = z <;> simp [hz] <;> (split <;> rename_i hp <;> simp [hp] <;> omega)
  by_cases h5 : op = 5
  · subst h5; by_cases hz : (l.length : Int) = z <;> simp [hz] <;> (split <;> rename_i hp <;> simp [hp] <;> omega)
  by_cases h6 : op = 6
  · subst h6; by_cases hz : (l.length : Int) = z <;> simp [hz] <;> (split <;> rename_i hp <;> simp [hp] <;> omega)
  by_cases h : 2 ≤ op ∧ op ≤ 5
  · by_cases hz : (l.length : Int) = z <;> simp [hz, h2, h4, h5, h6, h] <;> (split <;> rename_i hp <;> simp [hp] <;> omega)
  · by_cases hz : (l.length : Int) = z <;> simp [hz, h2, h4, h5, h6, h] <;> (split <;> rename_i hp <;> simp [hp] <;> omega)
theorem node1 (op a b : Int) (l : List S29) (k : Nat) : spec_l15Node.f (k + 1 + 1 + 1) op a b l = some (nodeOk op a b l.length) := by
  simp only [spec_l15Node.f, spec_l15Node.j0, spec_l15Node.j1, spec_IsTime.f, arity1, in1, Option.bind_some]
  unfold nodeOk amax bmax
  generalize arity op = z
  have ha0 : (a == 0) = decide (0 ≤ a ∧ a ≤ 0) := by rw [Bool.eq_iff_iff]; simp; omega
  have hb0 : (b == 0) = decide (0 ≤ b ∧ b ≤ 0) := by rw [Bool.eq_iff_iff]; simp; omega
  rw [ha0, hb0]
  generalize ((l.length : Int)) = y
  have hyz : (y == z) = decide (y = z) := by rw [Bool.eq_iff_iff]; simp
  rw [hyz]
  by_cases h2 : op = 2
  · subst h2; simp; by_cases p : 0 ≤ a ∧ a ≤ 5 <;> by_cases q : 0 ≤ b ∧ b ≤ 10000 <;> simp [p, q] <;> intros <;> omega
  by_cases h4 : op = 4
  · subst h4; simp; by_cases p : 0 ≤ a ∧ a ≤ 3 <;> by_cases q : 0 ≤ b ∧ b ≤ 10000 <;> simp [p, q] <;> intros <;> omega
  by_cases h5 : op = 5
  · subst h5; simp; by_cases p : 0 ≤ a ∧ a ≤ 3 <;> by_cases q : 0 ≤ b ∧ b ≤ 10000 <;> simp [p, q] <;> intros <;> omega
  by_cases h6 : op = 6
  · subst h6; simp; by_cases p : 0 ≤ a ∧ a ≤ 10000 <;> by_cases q : 0 ≤ b ∧ b ≤ 0 <;> simp [p, q] <;> intros <;> omega
  by_cases h : 2 ≤ op ∧ op ≤ 5
  · simp [h2, h4, h5, h6, h]; by_cases p : 0 ≤ a ∧ a ≤ 0 <;> by_cases q : 0 ≤ b ∧ b ≤ 10000 <;> simp [p, q] <;> intros <;> omega
  · simp [h2, h4, h5, h6, h]; by_cases p : 0 ≤ a ∧ a ≤ 0 <;> by_cases q : 0 ≤ b ∧ b ≤ 0 <;> simp [p, q] <;> intros <;> omega
mutual
def okB : S29 → Bool
  | ⟨a, b, c, l⟩ => nodeOk a b c l.length && okBS l
def okBS : List S29 → Bool
  | [] => true
  | x :: l => okB x && okBS l
end
theorem okB_eq (x : S29) : okB x = (nodeOk x.f0 x.f1 x.f2 x.f3.length && okBS x.f3) := by cases x; rw [okB]
theorem okBS_all (l : List S29) : okBS l = l.all okB := by
  induction l with
  | nil => rw [okBS]; rfl
  | cons x l ih => rw [okBS, ih]; rfl
theorem okBS_range (l : List S29) : (List.range l.length).all (fun i => okB (l.getD i z29)) = okBS l := by rw [okBS_all, all_range_getD l z29 okB]
theorem valid1 (N : Nat) : ∀ (a b c : Int) (l : List S29) (k : Nat), nodesBS l ≤ N → N ≤ 1048576 → 4 * N + 8 < k → spec_l15Valid.f k a b c l = some (nodeOk a b c l.length && okBS l) := by
  induction N using Nat.strongRecOn with
  | _ N ih =>
    intro a b c l k hN hN2 hk
    obtain ⟨k, rfl⟩ : ∃ m, k = m + 1 + 1 + 1 + 1 := ⟨k - 4, by omega⟩
    have hb := nodesBS_below l
    rw [spec_l15Valid.f, node1, Option.bind_some]
    by_cases h : nodeOk a b c l.length = true
    · rw [if_pos h, h, Bool.true_and]
      rcases Nat.eq_zero_or_pos l.length with hz | hz
      · obtain rfl : l = [] := List.eq_nil_of_length_eq_zero hz
        rw [spec_l15Valid.l0, if_neg (by simp), okBS]
      rw [allLoop (fun k i => spec_l15Valid.l0 k i a b c l) l.length (4 * (N - l.length) + 9) (fun i => okB (l.getD i z29)) false true ?_ ?_ ?_ (k + 1 + 1 + 1) (by omega), okBS_range]
      · cases okBS l <;> rfl
      · intro k i hk hi hp
        have hlt := nodesB_lt l _ (getD_mem l i z29 hi)
        rw [spec_l15Valid.l0, if_pos (by omega), if_pos (by omega), rdCB, ih (N - l.length) (by omega) _ _ _ _ k (by omega) (by omega) (by omega), Option.bind_some, ← okB_eq, if_pos hp, wrap_succ hi (by omega)]
      · intro k i hk hi hp
        have hlt := nodesB_lt l _ (getD_mem l i z29 hi)
        rw [spec_l15Valid.l0, if_pos (by omega), if_pos (by omega), rdCB, ih (N - l.length) (by omega) _ _ _ _ k (by omega) (by omega) (by omega), Option.bind_some, ← okB_eq, hp, if_neg (by simp)]
      · intro k _
        rw [spec_l15Valid.l0, if_neg (by omega)]
    · rw [if_neg h, Bool.eq_false_iff.2 h, Bool.false_and]
theorem valid2 (N : Nat) : ∀ (a b c : Int) (l : List S29) (k : Nat), nodesBS l ≤ N → N ≤ 1048576 → 7 * N + 9 < k → impl_areNodes.f k a b c l = some (nodeOk a b c l.length && okBS l) := by
  induction N using Nat.strongRecOn with
  | _ N ih =>
    intro a b c l k hN hN2 hk
    obtain ⟨k, rfl⟩ : ∃ m, k = m + 1 + 1 + 1 + 1 := ⟨k - 4, by omega⟩
    have hb := nodesBS_below l
    rw [impl_areNodes.f, node2, Option.bind_some]
    by_cases h : nodeOk a b c l.length = true
    · rw [if_pos h, h, Bool.true_and, impl_Cond_67.f, impl_Cond_83.f]
      have hl : impl_Cond_83.l0 (k + 1) l (l.length : Int) 0 = some (((List.range l.length).find? fun i => !okB (l.getD i z29)).elim (-1) fun i => (i : Int)) := by
        rcases Nat.eq_zero_or_pos l.length with hz | hz
        · obtain rfl : l = [] := List.eq_nil_of_length_eq_zero hz
          rw [impl_Cond_83.l0, if_neg (by simp)]
          rfl
        refine findLoop (fun k i => impl_Cond_83.l0 k l (l.length : Int) i) l.length (7 * (N - l.length) + 11) (fun i => !okB (l.getD i z29)) (fun i => (i : Int)) (-1) ?_ ?_ ?_ (k + 1) (by omega)
        · intro k i hk hi hp
          obtain ⟨k, rfl⟩ : ∃ m, k = m + 1 := ⟨k - 1, by omega⟩
          have hlt := nodesB_lt l _ (getD_mem l i z29 hi)
          rw [impl_Cond_83.l0, if_pos (by omega), if_pos (by omega), if_pos (by omega), rdCB, impl_areNodes_1.f, ih (N - l.length) (by omega) _ _ _ _ k (by omega) (by omega) (by omega), Option.bind_some, Option.bind_some, ← okB_eq, hp, if_neg (by simp), wrap_succ hi (by omega)]
        · intro k i hk hi hp
          obtain ⟨k, rfl⟩ : ∃ m, k = m + 1 := ⟨k - 1, by omega⟩
          have hlt := nodesB_lt l _ (getD_mem l i z29 hi)
          rw [impl_Cond_83.l0, if_pos (by omega), if_pos (by omega), if_pos (by omega), rdCB, impl_areNodes_1.f, ih (N - l.length) (by omega) _ _ _ _ k (by omega) (by omega) (by omega), Option.bind_some, Option.bind_some, ← okB_eq, hp, if_pos rfl]
        · intro k _
          rw [impl_Cond_83.l0, if_neg (by omega)]
      rw [hl, Option.bind_some, Option.bind_some, ← okBS_range]
      congr 1
      cases hf : (List.range l.length).find? fun i => !okB (l.getD i z29) with
      | none =>
        rw [List.find?_eq_none] at hf
        show (!decide ((-1 : Int) ≥ 0)) = _
        rw [show (!decide ((-1 : Int) ≥ 0)) = true from rfl, eq_comm, List.all_eq_true]
        intro i hi
        simpa using hf i hi
      | some i =>
        rw [List.find?_range_eq_some] at hf
        show (!decide ((i : Int) ≥ 0)) = _
        rw [decide_eq_true (show (i : Int) ≥ 0 by omega), eq_comm, show (!true) = false from rfl, List.all_eq_false]
        exact ⟨i, hf.2.1, by simpa using hf.1⟩
    · rw [if_neg h, Bool.eq_false_iff.2 h, Bool.false_and]
/-- What is left of n behind a tree: n - 1 - its other nodes, or less than 0. -/
def leftOk (n : Int) (s : Nat) (r : Int) : Prop := if (s : Int) ≤ n then r = n - (s : Int) else r < 0
theorem left1 (N : Nat) : ∀ (a b c : Int) (l : List S29) (n : Int) (k : Nat), nodesBS l ≤ N → N ≤ 1048576 → 0 ≤ n → n ≤ 1048576 → 4 * N + 8 < k → ∃ r, spec_l15Left.f k a b c l n = some r ∧ leftOk n (1 + nodesBS l) r ∧ -1 ≤ r := by
  induction N using Nat.strongRecOn with
  | _ N ih =>
    intro a b c l n k hN hN2 h0 h1 hk
    obtain ⟨k, rfl⟩ : ∃ m, k = m + 1 := ⟨k - 1, by omega⟩
    have hb := nodesBS_below l
    rw [spec_l15Left.f, wrap_in (by omega) (by omega)]
    rcases Nat.eq_zero_or_pos l.length with hz | hz
    · obtain rfl : l = [] := List.eq_nil_of_length_eq_zero hz
      obtain ⟨k, rfl⟩ : ∃ m, k = m + 1 := ⟨k - 1, by omega⟩
      refine ⟨n - 1, by rw [spec_l15Left.l0, if_neg (by simp)], ?_, by omega⟩
      rw [nodesBS]
      unfold leftOk
      split <;> omega
    have key : ∀ d i k (m : Int), i + d = l.length → d + 4 * (N - l.length) + 10 < k → -1 ≤ m → m ≤ 1048576 → ∃ r, spec_l15Left.l0 k m (i : Int) a b c l = some r ∧ leftOk m (((l.drop i).map nodesB).sum) r ∧ -1 ≤ r := by
      intro d
      induction d with
      | zero =>
        intro i k m hi hk g0 g1
        obtain ⟨k, rfl⟩ : ∃ m, k = m + 1 := ⟨k - 1, by omega⟩
        refine ⟨m, by rw [spec_l15Left.l0, if_neg (by omega)], ?_, g0⟩
        rw [List.drop_of_length_le (by omega)]
        unfold leftOk
        simp only [List.map_nil, List.sum_nil]
        split <;> omega
      | succ d il =>
        intro i k m hi hk g0 g1
        obtain ⟨k, rfl⟩ : ∃ m, k = m + 1 := ⟨k - 1, by omega⟩
        have hlt : i < l.length := by omega
        have hm := getD_mem l i z29 hlt
        have hn := nodesB_lt l _ hm
        have hd : ((l.drop i).map nodesB).sum = nodesB (l.getD i z29) + ((l.drop (i + 1)).map nodesB).sum := by
          rw [List.drop_eq_getElem_cons hlt, List.map_cons, List.sum_cons, getD_get l i _ hlt]
        have hx := nodesB_eq (l.getD i z29)
        rw [spec_l15Left.l0, if_pos (by omega), hd]
        by_cases hm0 : m ≥ 0
        · obtain ⟨r, e, hr, hr0⟩ := ih (N - l.length) (by omega) (l.getD i z29).f0 (l.getD i z29).f1 (l.getD i z29).f2 (l.getD i z29).f3 m k (by omega) (by omega) hm0 g1 (by omega)
          have hrm : r ≤ 1048576 := by unfold leftOk at hr; split at hr <;> omega
          obtain ⟨r2, e2, hr2, hr20⟩ := il (i + 1) k r (by omega) (by omega) hr0 hrm
          refine ⟨r2, ?_, ?_, hr20⟩
          · rw [if_pos hm0, if_pos (by omega), rdCB, e, Option.bind_some, wrap_succ hlt (by omega), e2]
          · unfold leftOk at hr hr2 ⊢
            split at hr <;> split at hr2 <;> split <;> omega
        · refine ⟨m, by rw [if_neg hm0], ?_, g0⟩
          unfold leftOk
          split <;> omega
    obtain ⟨r, e, hr, hr0⟩ := key l.length 0 k (n - 1) (by omega) (by omega) (by omega) (by omega)
    refine ⟨r, e, ?_, hr0⟩
    rw [List.drop_zero, ← nodesBS_sum] at hr
    unfold leftOk at hr ⊢
    split at hr <;> split <;> omega
theorem FnExactIsCond : laws_FnExactIsCond.Pure := by
  intro a b c l _ _ _ hw
  suffices h : ∀ k, 7 * nodesAS l + 20 < k → laws_FnExactIsCond.f k a b c l = some true from ⟨7 * nodesAS l + 21, h _ (by omega)⟩
  intro k hk
  unfold laws_FnExactIsCond.f
  rw [szCond_of a b c l 1048576 k hw.2 hw.1 (by omega) (by omega) (by omega), Option.bind_some]
  by_cases h : (nodesAS l : Int) ≤ 1048576
  · have hn : nodesBS (cvCondS l) = nodesAS l := cv_nodes _ l (Nat.le_refl _)
    rw [if_pos h, if_neg (by omega)]
    obtain ⟨r, e, hr, _⟩ := left1 (nodesBS (cvCondS l)) a b c (cvCondS l) 15 k (Nat.le_refl _) (by omega) (by omega) (by omega) (by omega)
    have hs : spec_IsCond.f k a b c (cvCondS l) = impl_IsCond.f k a b c (cvCondS l) := by
      rw [spec_IsCond.f, impl_IsCond.f, e, Option.bind_some, size2 (nodesBS (cvCondS l)) a b c (cvCondS l) k (Nat.le_refl _) (by omega) (by omega), Option.bind_some, valid1 (nodesBS (cvCondS l)) a b c (cvCondS l) k (Nat.le_refl _) (by omega) (by omega), valid2 (nodesBS (cvCondS l)) a b c (cvCondS l) k (Nat.le_refl _) (by omega) (by omega)]
      unfold leftOk at hr
      split at hr
      · rw [if_pos (by omega), if_pos (by omega)]
      · rw [if_neg (by omega), if_neg (by omega)]
    have hi : ∃ q, impl_IsCond.f k a b c (cvCondS l) = some q := by
      rw [impl_IsCond.f, size2 (nodesBS (cvCondS l)) a b c (cvCondS l) k (Nat.le_refl _) (by omega) (by omega), Option.bind_some, valid2 (nodesBS (cvCondS l)) a b c (cvCondS l) k (Nat.le_refl _) (by omega) (by omega)]
      split
      · exact ⟨_, rfl⟩
      · exact ⟨_, rfl⟩
    obtain ⟨q, hq⟩ := hi
    simp only [toCond_of a b c l k (by omega) (by omega), hs, hq, eqCond_of a b c (cvCondS l) k (by omega) (by omega), Option.bind_some, bne_self_eq_false, if_true]
    rfl
  · rw [if_neg h, if_pos (by omega)]
end Go.Proofs.Ytlcmjdkbeckdnaa.Pure
