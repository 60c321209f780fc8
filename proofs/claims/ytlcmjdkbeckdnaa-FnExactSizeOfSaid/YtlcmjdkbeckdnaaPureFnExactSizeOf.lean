/- FnExactSizeOf: the program's SizeOf answers what the reference's answers, for every condition. Conditions: none. -/
import Derived.Test.YtlcmjdkbeckdnaaLib
import Derived.Test.YtlcmjdkbeckdnaaXFnExactSizeOfx2
namespace Go.Proofs.Ytlcmjdkbeckdnaa.Pure
open Go.RowKit Go.Proofs.Ytlcmjdkbeckdnaa.XFnExactSizeOf Go.Proofs.YtlcmjdkbeckdnaaW.PrintWords
set_option linter.unusedVariables false
set_option linter.unusedSimpArgs false
open Go.Proofs.YtlcmjdkbeckdnaaLib
/-! ### Trees: how many nodes, and how many rounds -/
mutual
def nodesA : S24 → Nat
  | ⟨_, _, _, l⟩ => 1 + nodesAS l
def nodesAS : List S24 → Nat
  | [] => 0
  | x :: l => nodesA x + nodesAS l
end
mutual
def nodesB : S29 → Nat
  | ⟨_, _, _, l⟩ => 1 + nodesBS l
def nodesBS : List S29 → Nat
  | [] => 0
  | x :: l => nodesB x + nodesBS l
end
theorem nodesA_eq (x : S24) : nodesA x = 1 + nodesAS x.f3 := by cases x; rw [nodesA]
theorem nodesB_eq (x : S29) : nodesB x = 1 + nodesBS x.f3 := by cases x; rw [nodesB]
theorem nodesAS_sum (l : List S24) : nodesAS l = (l.map nodesA).sum := by
  induction l with
  | nil => rw [nodesAS]; rfl
  | cons x l ih => rw [nodesAS, ih]; rfl
theorem nodesBS_sum (l : List S29) : nodesBS l = (l.map nodesB).sum := by
  induction l with
  | nil => rw [nodesBS]; rfl
  | cons x l ih => rw [nodesBS, ih]; rfl
theorem nodesAS_below (l : List S24) : nodesAS l = l.length + (l.map fun x => nodesAS x.f3).sum := by
  induction l with
  | nil => rw [nodesAS]; rfl
  | cons x l ih =>
    rw [nodesAS, ih, nodesA_eq, List.map_cons, List.sum_cons, List.length_cons]
    omega
theorem nodesBS_below (l : List S29) : nodesBS l = l.length + (l.map fun x => nodesBS x.f3).sum := by
  induction l with
  | nil => rw [nodesBS]; rfl
  | cons x l ih =>
    rw [nodesBS, ih, nodesB_eq, List.map_cons, List.sum_cons, List.length_cons]
    omega
theorem nodesA_lt (l : List S24) (x : S24) (h : x ∈ l) : nodesAS x.f3 + l.length ≤ nodesAS l := by
  have := le_sum (fun x : S24 => nodesAS x.f3) l x h
  rw [nodesAS_below l]
  omega
theorem nodesB_lt (l : List S29) (x : S29) (h : x ∈ l) : nodesBS x.f3 + l.length ≤ nodesBS l := by
  have := le_sum (fun x : S29 => nodesBS x.f3) l x h
  rw [nodesBS_below l]
  omega
theorem rdCA (l : List S24) (i : Nat) : rd_T24 l (i : Int) = l.getD i z24 := by
  unfold rd_T24
  rw [Int.toNat_natCast]
theorem rdCB (l : List S29) (i : Nat) : rd_T29 l (i : Int) = l.getD i z29 := by
  unfold rd_T29
  rw [Int.toNat_natCast]
/-! ### The size that is left -/
theorem szCondS_of (N : Nat) : ∀ (l : List S24) (a : Int) (k : Nat), nodesAS l ≤ N → (∀ x ∈ l, wf24 x) → l.length ≤ maxLen → 0 ≤ a → a ≤ 1048576 → 4 * N + 4 < k → laws_szCondS.f k l a = some (if (nodesAS l : Int) ≤ a then a - (nodesAS l : Int) else -1) := by
  induction N using Nat.strongRecOn with
  | _ N ih =>
    intro l a k hN hw hlen h0 h1 hk
    obtain ⟨k, rfl⟩ : ∃ m, k = m + 1 := ⟨k - 1, by omega⟩
    simp only [laws_szCondS.f]
    unfold maxLen at hlen
    have hb := nodesAS_below l
    rw [wrap_in (by omega) (by omega)]
    by_cases h : (l.length : Int) ≤ a
    · rw [if_neg (by omega), hb]
      rcases Nat.eq_zero_or_pos l.length with hz | hz
      · obtain rfl : l = [] := List.eq_nil_of_length_eq_zero hz
        obtain ⟨k, rfl⟩ : ∃ m, k = m + 1 := ⟨k - 1, by omega⟩
        rw [laws_szCondS.l0, if_neg (by simp)]
        simp [h0]
      have hx : ∀ k i a', 4 * (N - l.length) + 6 ≤ k → i < l.length → 0 ≤ a' → a' ≤ 1048576 → laws_szCondS.l0 (k + 1) l a' (i : Int) = if (nodesAS (l.getD i z24).f3 : Int) ≤ a' then laws_szCondS.l0 k l (a' - (nodesAS (l.getD i z24).f3 : Int)) ((i + 1 : Nat) : Int) else some (-1) := by
        intro k i a' hk hi g0 g1
        obtain ⟨k, rfl⟩ : ∃ m, k = m + 1 := ⟨k - 1, by omega⟩
        have hm := getD_mem l i z24 hi
        have hlt := nodesA_lt l _ hm
        have hww := hw _ hm
        rw [laws_szCondS.l0, if_pos (by omega), if_pos (by omega), rdCA, laws_szCond.f]
        generalize l.getD i z24 = x at hm hlt hww ⊢
        cases hww with
        | mk f0 f1 f2 f3 _ _ _ hl3 hw3 =>
          simp only at hlt ⊢
          rw [ih (N - l.length) (by omega) f3 a' k (by omega) hw3 hl3 g0 g1 (by omega), Option.bind_some, wrap_succ hi (by omega)]
          by_cases g : (nodesAS f3 : Int) ≤ a'
          · rw [if_pos g, if_neg (by omega), Option.bind_some, if_neg (by omega), if_pos g]
          · rw [if_neg g, if_pos (by omega), Option.bind_some, if_pos (by omega), if_neg g]
      rw [szLoop (fun k a i => laws_szCondS.l0 k l a i) l z24 (fun x => nodesAS x.f3) (4 * (N - l.length) + 6) 1048576 hx ?_ k (a - (l.length : Int)) (by omega) (by omega) (by omega)]
      · generalize (l.map fun x => nodesAS x.f3).sum = s
        by_cases g : (s : Int) ≤ a - (l.length : Int)
        · rw [if_pos g, if_pos (by omega)]; congr 1; omega
        · rw [if_neg g, if_neg (by omega)]
      · intro k a' _
        simp only [laws_szCondS.l0]
        rw [if_neg (by omega)]
    · rw [if_pos (by omega), if_neg (by omega)]
theorem szCond_of (a b c : Int) (l : List S24) (n : Int) (k : Nat) (hw : ∀ x ∈ l, wf24 x) (hlen : l.length ≤ maxLen) (h0 : 0 ≤ n) (h1 : n ≤ 1048576) (hk : 4 * nodesAS l + 5 < k) : laws_szCond.f k a b c l n = some (if (nodesAS l : Int) ≤ n then n - (nodesAS l : Int) else -1) := by
  obtain ⟨k, rfl⟩ : ∃ m, k = m + 1 := ⟨k - 1, by omega⟩
  simp only [laws_szCond.f]
  rw [szCondS_of (nodesAS l) l n k (Nat.le_refl _) hw hlen h0 h1 (by omega), Option.bind_some]
  by_cases g : (nodesAS l : Int) ≤ n
  · rw [if_pos g, if_neg (by omega)]
  · rw [if_neg g, if_pos (by omega)]
/-! ### The tree that the program reads -/
mutual
def cvCond : S24 → S29
  | ⟨a, b, c, l⟩ => ⟨a, b, c, cvCondS l⟩
def cvCondS : List S24 → List S29
  | [] => []
  | x :: l => cvCond x :: cvCondS l
end
theorem cvCond_eq (x : S24) : cvCond x = ⟨x.f0, x.f1, x.f2, cvCondS x.f3⟩ := by cases x; rw [cvCond]
theorem cvCondS_map (l : List S24) : cvCondS l = l.map cvCond := by
  induction l with
  | nil => rw [cvCondS]; rfl
  | cons x l ih => rw [cvCondS, ih]; rfl
theorem cv_nodes (N : Nat) : ∀ l : List S24, nodesAS l ≤ N → nodesBS (cvCondS l) = nodesAS l := by
  induction N with
  | zero =>
    intro l h
    have := nodesAS_below l
    obtain rfl : l = [] := List.eq_nil_of_length_eq_zero (by omega)
    rw [cvCondS, nodesBS, nodesAS]
  | succ N ih =>
    intro l
    induction l with
    | nil => intro _; rw [cvCondS, nodesBS, nodesAS]
    | cons x l il =>
      intro h
      rw [nodesAS] at h
      have hx := nodesA_eq x
      rw [cvCondS, nodesBS, nodesAS, il (by omega), nodesB_eq, cvCond_eq, ih x.f3 (by omega), hx]
theorem toCondS_of (N : Nat) : ∀ (l : List S24) (k : Nat), nodesAS l ≤ N → N ≤ 1048576 → 4 * N + 4 < k → laws_toCondS.f k l = some (cvCondS l) := by
  induction N using Nat.strongRecOn with
  | _ N ih =>
    intro l k hN hN2 hk
    obtain ⟨k, rfl⟩ : ∃ m, k = m + 1 := ⟨k - 1, by omega⟩
    have hb := nodesAS_below l
    simp only [laws_toCondS.f]
    rw [if_pos (by omega), if_pos (by omega), Int.toNat_natCast, cvCondS_map]
    rcases Nat.eq_zero_or_pos l.length with hz | hz
    · obtain rfl : l = [] := List.eq_nil_of_length_eq_zero hz
      obtain ⟨k, rfl⟩ : ∃ m, k = m + 1 := ⟨k - 1, by omega⟩
      simp [laws_toCondS.l0]
    refine (run (fun k s i => laws_toCondS.l0 k l s i) (put (fun i => cvCond (l.getD i z24)) (List.replicate l.length z29)) l.length (4 * (N - l.length) + 6) (l.map cvCond) ?_ ?_ k (by omega))
    · intro k i hk hi
      obtain ⟨k, rfl⟩ : ∃ m, k = m + 1 := ⟨k - 1, by omega⟩
      have hlen : (put (fun i => cvCond (l.getD i z24)) (List.replicate l.length z29) i).length = l.length := by rw [put_length _ _ _ (by simp; omega), List.length_replicate]
      have hlt := nodesA_lt l _ (getD_mem l i z24 hi)
      rw [laws_toCondS.l0, if_pos (by omega), if_pos (by omega), rdCA, laws_toCond.f, ih (N - l.length) (by omega) _ k (by omega) (by omega) (by omega), Option.bind_some, Option.bind_some, if_pos (by omega), wrap_succ hi (by omega), Int.toNat_natCast]
      rw [← cvCond_eq, put_set (fun i => cvCond (l.getD i z24)) _ i (by simp; omega)]
    · intro k _
      simp only [laws_toCondS.l0]
      rw [if_neg (by omega), put_all _ _ (by simp), map_range_getD l z24 cvCond]
theorem toCond_of (a b c : Int) (l : List S24) (k : Nat) (h : nodesAS l ≤ 1048576) (hk : 4 * nodesAS l + 5 < k) : laws_toCond.f k a b c l = some (a, b, c, cvCondS l) := by
  obtain ⟨k, rfl⟩ : ∃ m, k = m + 1 := ⟨k - 1, by omega⟩
  simp only [laws_toCond.f]
  rw [toCondS_of (nodesAS l) l k (Nat.le_refl _) h (by omega), Option.bind_some]
/-! ### A tree is the same as itself -/
theorem eqCondS_of (N : Nat) : ∀ (l : List S29) (k : Nat), nodesBS l ≤ N → N ≤ 1048576 → 4 * N + 4 < k → laws_eqCondS.f k l l = some true := by
  induction N using Nat.strongRecOn with
  | _ N ih =>
    intro l k hN hN2 hk
    obtain ⟨k, rfl⟩ : ∃ m, k = m + 1 := ⟨k - 1, by omega⟩
    have hb := nodesBS_below l
    rw [laws_eqCondS.f, if_pos rfl]
    rcases Nat.eq_zero_or_pos l.length with hz | hz
    · obtain rfl : l = [] := List.eq_nil_of_length_eq_zero hz
      obtain ⟨k, rfl⟩ : ∃ m, k = m + 1 := ⟨k - 1, by omega⟩
      simp [laws_eqCondS.l0]
    refine (run (fun k (_ : Unit) i => laws_eqCondS.l0 k l l i) (fun _ => ()) l.length (4 * (N - l.length) + 6) true ?_ ?_ k (by omega))
    · intro k i hk hi
      obtain ⟨k, rfl⟩ : ∃ m, k = m + 1 := ⟨k - 1, by omega⟩
      have hlt := nodesB_lt l _ (getD_mem l i z29 hi)
      rw [laws_eqCondS.l0, if_pos (by omega), if_pos (by omega), if_pos (by omega), rdCB, laws_eqCond.f, if_pos rfl, if_pos rfl, if_pos rfl, ih (N - l.length) (by omega) _ k (by omega) (by omega) (by omega), Option.bind_some, if_pos rfl, Option.bind_some, if_pos rfl, wrap_succ hi (by omega)]
    · intro k _
      simp only [laws_eqCondS.l0]
      rw [if_neg (by omega)]
theorem eqCond_of (a b c : Int) (l : List S29) (k : Nat) (h : nodesBS l ≤ 1048576) (hk : 4 * nodesBS l + 5 < k) : laws_eqCond.f k a b c l a b c l = some true := by
  obtain ⟨k, rfl⟩ : ∃ m, k = m + 1 := ⟨k - 1, by omega⟩
  simp only [laws_eqCond.f, if_true]
  rw [eqCondS_of (nodesBS l) l k (Nat.le_refl _) h (by omega), Option.bind_some, if_pos rfl]
theorem size1 (N : Nat) : ∀ (a b c : Int) (l : List S29) (k : Nat), nodesBS l ≤ N → N ≤ 1048576 → 4 * N + 4 < k → spec_SizeOf.f k a b c l = some (1 + (nodesBS l : Int)) := by
  induction N using Nat.strongRecOn with
  | _ N ih =>
    intro a b c l k hN hN2 hk
    obtain ⟨k, rfl⟩ : ∃ m, k = m + 1 := ⟨k - 1, by omega⟩
    have hb := nodesBS_below l
    simp only [spec_SizeOf.f]
    rcases Nat.eq_zero_or_pos l.length with hz | hz
    · obtain rfl : l = [] := List.eq_nil_of_length_eq_zero hz
      obtain ⟨k, rfl⟩ : ∃ m, k = m + 1 := ⟨k - 1, by omega⟩
      simp [spec_SizeOf.l0, nodesBS]
    have h := run (fun k s i => spec_SizeOf.l0 k s i a b c l) (fun i => 1 + (((l.take i).map nodesB).sum : Int)) l.length (4 * (N - l.length) + 6) (1 + (nodesBS l : Int)) ?_ ?_ k (by omega)
    · simpa using h
    · intro k i hk hi
      have hm := getD_mem l i z29 hi
      have hlt := nodesB_lt l _ hm
      have hle : ((l.take i).map nodesB).sum + nodesB (l.getD i z29) = ((l.take (i + 1)).map nodesB).sum := by
        rw [List.take_succ_eq_append_getElem hi, List.map_append, List.sum_append, getD_get l i _ hi]
        simp
      have hle2 : ((l.take (i + 1)).map nodesB).sum ≤ nodesBS l := by
        rw [nodesBS_sum]
        have h3 : (l.map nodesB).sum = ((l.take (i + 1)).map nodesB).sum + ((l.drop (i + 1)).map nodesB).sum := by rw [← List.sum_append, ← List.map_append, List.take_append_drop]
        omega
      have hn := nodesB_eq (l.getD i z29)
      simp only [spec_SizeOf.l0, rdCB]
      rw [if_pos (by omega), if_pos (by omega), ih (N - l.length) (by omega) _ _ _ _ k (by omega) (by omega) (by omega), Option.bind_some, wrap_succ hi (by omega), wrap_in (by omega) (by omega)]
      congr 1
      omega
    · intro k _
      simp only [spec_SizeOf.l0]
      rw [if_neg (by omega), List.take_of_length_le (Nat.le_refl _), nodesBS_sum]
theorem size2 (N : Nat) : ∀ (a b c : Int) (l : List S29) (k : Nat), nodesBS l ≤ N → N ≤ 1048576 → 4 * N + 4 < k → impl_SizeOf.f k a b c l = some (1 + (nodesBS l : Int)) := by
  induction N using Nat.strongRecOn with
  | _ N ih =>
    intro a b c l k hN hN2 hk
    obtain ⟨k, rfl⟩ : ∃ m, k = m + 1 := ⟨k - 1, by omega⟩
    have hb := nodesBS_below l
    simp only [impl_SizeOf.f]
    rcases Nat.eq_zero_or_pos l.length with hz | hz
    · obtain rfl : l = [] := List.eq_nil_of_length_eq_zero hz
      obtain ⟨k, rfl⟩ : ∃ m, k = m + 1 := ⟨k - 1, by omega⟩
      simp [impl_SizeOf.l0, nodesBS]
    have h := run (fun k s i => impl_SizeOf.l0 k s l (l.length : Int) i) (fun i => 1 + (((l.take i).map nodesB).sum : Int)) l.length (4 * (N - l.length) + 6) (1 + (nodesBS l : Int)) ?_ ?_ k (by omega)
    · simpa using h
    · intro k i hk hi
      have hm := getD_mem l i z29 hi
      have hlt := nodesB_lt l _ hm
      have hle : ((l.take i).map nodesB).sum + nodesB (l.getD i z29) = ((l.take (i + 1)).map nodesB).sum := by
        rw [List.take_succ_eq_append_getElem hi, List.map_append, List.sum_append, getD_get l i _ hi]
        simp
      have hle2 : ((l.take (i + 1)).map nodesB).sum ≤ nodesBS l := by
        rw [nodesBS_sum]
        have h3 : (l.map nodesB).sum = ((l.take (i + 1)).map nodesB).sum + ((l.drop (i + 1)).map nodesB).sum := by rw [← List.sum_append, ← List.map_append, List.take_append_drop]
        omega
      have hn := nodesB_eq (l.getD i z29)
      simp only [impl_SizeOf.l0, rdCB]
      rw [if_pos (by omega), if_pos (by omega), if_pos (by omega), ih (N - l.length) (by omega) _ _ _ _ k (by omega) (by omega) (by omega), Option.bind_some, wrap_succ hi (by omega), wrap_in (by omega) (by omega)]
      congr 1
      omega
    · intro k _
      simp only [impl_SizeOf.l0]
      rw [if_neg (by omega), List.take_of_length_le (Nat.le_refl _), nodesBS_sum]
theorem FnExactSizeOf : laws_FnExactSizeOf.Pure := by
  intro a b c l _ _ _ hw
  suffices h : ∀ k, 4 * nodesAS l + 8 < k → laws_FnExactSizeOf.f k a b c l = some true from ⟨4 * nodesAS l + 9, h _ (by omega)⟩
  intro k hk
  unfold laws_FnExactSizeOf.f
  rw [szCond_of a b c l 1048576 k hw.2 hw.1 (by omega) (by omega) (by omega), Option.bind_some]
  by_cases h : (nodesAS l : Int) ≤ 1048576
  · have hn : nodesBS (cvCondS l) = nodesAS l := cv_nodes _ l (Nat.le_refl _)
    rw [if_pos h, if_neg (by omega)]
    simp only [toCond_of a b c l k (by omega) (by omega), size1 (nodesBS (cvCondS l)) a b c (cvCondS l) k (Nat.le_refl _) (by omega) (by omega), size2 (nodesBS (cvCondS l)) a b c (cvCondS l) k (Nat.le_refl _) (by omega) (by omega), eqCond_of a b c (cvCondS l) k (by omega) (by omega), Option.bind_some, if_true]
  · rw [if_neg h, if_pos (by omega)]
end Go.Proofs.Ytlcmjdkbeckdnaa.Pure
