/- FnExactLeavesOf: the program's LeavesOf answers what the reference's answers, for all conditions; it leaves what it is given, and what it returns is new memory. Conditions: none. -/
import Derived.Test.YthjhenhmjmpkaaaLib
import Derived.Test.YthjhenhmjmpkaaaXFnExactLeavesOfx7
namespace Go.Proofs.Ythjhenhmjmpkaaa.Pure
open Go.RowKit Go.Proofs.Ythjhenhmjmpkaaa.XFnExactLeavesOf Go.Proofs.YthjhenhmjmpkaaaW.PrintWords
set_option linter.unusedVariables false
set_option linter.unusedSimpArgs false
open Go.Proofs.YthjhenhmjmpkaaaLib
/-! ### Trees: how many nodes, and how many rounds -/
mutual
def nodesA : S24 → Nat
  | ⟨_, _, _, l⟩ => 1 + nodesAS l
def nodesAS : List S24 → Nat
  | [] => 0
  | x :: l => nodesA x + nodesAS l
end
mutual
def nodesB : S29 → Nat
  | ⟨_, _, _, l⟩ => 1 + nodesBS l
def nodesBS : List S29 → Nat
  | [] => 0
  | x :: l => nodesB x + nodesBS l
end
theorem nodesA_eq (x : S24) : nodesA x = 1 + nodesAS x.f3 := by cases x; rw [nodesA]
theorem nodesB_eq (x : S29) : nodesB x = 1 + nodesBS x.f3 := by cases x; rw [nodesB]
theorem nodesAS_sum (l : List S24) : nodesAS l = (l.map nodesA).sum := by
  induction l with
  | nil => rw [nodesAS]; rfl
  | cons x l ih => rw [nodesAS, ih]; rfl
theorem nodesBS_sum (l : List S29) : nodesBS l = (l.map nodesB).sum := by
  induction l with
  | nil => rw [nodesBS]; rfl
  | cons x l ih => rw [nodesBS, ih]; rfl
theorem nodesAS_below (l : List S24) : nodesAS l = l.length + (l.map fun x => nodesAS x.f3).sum := by
  induction l with
  | nil => rw [nodesAS]; rfl
  | cons x l ih =>
    rw [nodesAS, ih, nodesA_eq, List.map_cons, List.sum_cons, List.length_cons]
    omega
theorem nodesBS_below (l : List S29) : nodesBS l = l.length + (l.map fun x => nodesBS x.f3).sum := by
  induction l with
  | nil => rw [nodesBS]; rfl
  | cons x l ih =>
    rw [nodesBS, ih, nodesB_eq, List.map_cons, List.sum_cons, List.length_cons]
    omega
theorem nodesA_lt (l : List S24) (x : S24) (h : x ∈ l) : nodesAS x.f3 + l.length ≤ nodesAS l := by
  have := le_sum (fun x : S24 => nodesAS x.f3) l x h
  rw [nodesAS_below l]
  omega
theorem nodesB_lt (l : List S29) (x : S29) (h : x ∈ l) : nodesBS x.f3 + l.length ≤ nodesBS l := by
  have := le_sum (fun x : S29 => nodesBS x.f3) l x h
  rw [nodesBS_below l]
  omega
theorem rdCA (l : List S24) (i : Nat) : rd_T24 l (i : Int) = l.getD i z24 := by
  unfold rd_T24
  rw [Int.toNat_natCast]
theorem rdCB (l : List S29) (i : Nat) : rd_T29 l (i : Int) = l.getD i z29 := by
  unfold rd_T29
  rw [Int.toNat_natCast]
/-! ### The size that is left -/
theorem szCondS_of (N : Nat) : ∀ (l : List S24) (a : Int) (k : Nat), nodesAS l ≤ N → (∀ x ∈ l, wf24 x) → l.length ≤ maxLen → 0 ≤ a → a ≤ 1048576 → 4 * N + 4 < k → laws_szCondS.f k l a = some (if (nodesAS l : Int) ≤ a then a - (nodesAS l : Int) else -1) := by
  induction N using Nat.strongRecOn with
  | _ N ih =>
    intro l a k hN hw hlen h0 h1 hk
    obtain ⟨k, rfl⟩ : ∃ m, k = m + 1 := ⟨k - 1, by omega⟩
    simp only [laws_szCondS.f]
    unfold maxLen at hlen
    have hb := nodesAS_below l
    rw [wrap_in (by omega) (by omega)]
    by_cases h : (l.length : Int) ≤ a
    · rw [if_neg (by omega), hb]
      rcases Nat.eq_zero_or_pos l.length with hz | hz
      · obtain rfl : l = [] := List.eq_nil_of_length_eq_zero hz
        obtain ⟨k, rfl⟩ : ∃ m, k = m + 1 := ⟨k - 1, by omega⟩
        rw [laws_szCondS.l0, if_neg (by simp)]
        simp [h0]
      have hx : ∀ k i a', 4 * (N - l.length) + 6 ≤ k → i < l.length → 0 ≤ a' → a' ≤ 1048576 → laws_szCondS.l0 (k + 1) l a' (i : Int) = if (nodesAS (l.getD i z24).f3 : Int) ≤ a' then laws_szCondS.l0 k l (a' - (nodesAS (l.getD i z24).f3 : Int)) ((i + 1 : Nat) : Int) else some (-1) := by
        intro k i a' hk hi g0 g1
        obtain ⟨k, rfl⟩ : ∃ m, k = m + 1 := ⟨k - 1, by omega⟩
        have hm := getD_mem l i z24 hi
        have hlt := nodesA_lt l _ hm
        have hww := hw _ hm
        rw [laws_szCondS.l0, if_pos (by omega), if_pos (by omega), rdCA, laws_szCond.f]
        generalize l.getD i z24 = x at hm hlt hww ⊢
        cases hww with
        | mk f0 f1 f2 f3 _ _ _ hl3 hw3 =>
          simp only at hlt ⊢
          rw [ih (N - l.length) (by omega) f3 a' k (by omega) hw3 hl3 g0 g1 (by omega), Option.bind_some, wrap_succ hi (by omega)]
          by_cases g : (nodesAS f3 : Int) ≤ a'
          · rw [if_pos g, if_neg (by omega), Option.bind_some, if_neg (by omega), if_pos g]
          · rw [if_neg g, if_pos (by omega), Option.bind_some, if_pos (by omega), if_neg g]
      rw [szLoop (fun k a i => laws_szCondS.l0 k l a i) l z24 (fun x => nodesAS x.f3) (4 * (N - l.length) + 6) 1048576 hx ?_ k (a - (l.length : Int)) (by omega) (by omega) (by omega)]
      · generalize (l.map fun x => nodesAS x.f3).sum = s
        by_cases g : (s : Int) ≤ a - (l.length : Int)
        · rw [if_pos g, if_pos (by omega)]; congr 1; omega
        · rw [if_neg g, if_neg (by omega)]
      · intro k a' _
        simp only [laws_szCondS.l0]
        rw [if_neg (by omega)]
    · rw [if_pos (by omega), if_neg (by omega)]
theorem szCond_of (a b c : Int) (l : List S24) (n : Int) (k : Nat) (hw : ∀ x ∈ l, wf24 x) (hlen : l.length ≤ maxLen) (h0 : 0 ≤ n) (h1 : n ≤ 1048576) (hk : 4 * nodesAS l + 5 < k) : laws_szCond.f k a b c l n = some (if (nodesAS l : Int) ≤ n then n - (nodesAS l : Int) else -1) := by
  obtain ⟨k, rfl⟩ : ∃ m, k = m + 1 := ⟨k - 1, by omega⟩
  simp only [laws_szCond.f]
  rw [szCondS_of (nodesAS l) l n k (Nat.le_refl _) hw hlen h0 h1 (by omega), Option.bind_some]
  by_cases g : (nodesAS l : Int) ≤ n
  · rw [if_pos g, if_neg (by omega)]
  · rw [if_neg g, if_pos (by omega)]
/-! ### The tree that the program reads -/
mutual
def cvCond : S24 → S29
  | ⟨a, b, c, l⟩ => ⟨a, b, c, cvCondS l⟩
def cvCondS : List S24 → List S29
  | [] => []
  | x :: l => cvCond x :: cvCondS l
end
theorem cvCond_eq (x : S24) : cvCond x = ⟨x.f0, x.f1, x.f2, cvCondS x.f3⟩ := by cases x; rw [cvCond]
theorem cvCondS_map (l : List S24) : cvCondS l = l.map cvCond := by
  induction l with
  | nil => rw [cvCondS]; rfl
  | cons x l ih => rw [cvCondS, ih]; rfl
theorem cv_nodes (N : Nat) : ∀ l : List S24, nodesAS l ≤ N → nodesBS (cvCondS l) = nodesAS l := by
  induction N with
  | zero =>
    intro l h
    have := nodesAS_below l
    obtain rfl : l = [] := List.eq_nil_of_length_eq_zero (by omega)
    rw [cvCondS, nodesBS, nodesAS]
  | succ N ih =>
    intro l
    induction l with
    | nil => intro _; rw [cvCondS, nodesBS, nodesAS]
    | cons x l il =>
      intro h
      rw [nodesAS] at h
      have hx := nodesA_eq x
      rw [cvCondS, nodesBS, nodesAS, il (by omega), nodesB_eq, cvCond_eq, ih x.f3 (by omega), hx]
theorem toCondS_of (N : Nat) : ∀ (l : List S24) (k : Nat), nodesAS l ≤ N → N ≤ 1048576 → 4 * N + 4 < k → laws_toCondS.f k l = some (cvCondS l) := by
  induction N using Nat.strongRecOn with
  | _ N ih =>
    intro l k hN hN2 hk
    obtain ⟨k, rfl⟩ : ∃ m, k = m + 1 := ⟨k - 1, by omega⟩
    have hb := nodesAS_below l
    simp only [laws_toCondS.f]
    rw [if_pos (by omega), if_pos (by omega), Int.toNat_natCast, cvCondS_map]
    rcases Nat.eq_zero_or_pos l.length with hz | hz
    · obtain rfl : l = [] := List.eq_nil_of_length_eq_zero hz
      obtain ⟨k, rfl⟩ : ∃ m, k = m + 1 := ⟨k - 1, by omega⟩
      simp [laws_toCondS.l0]
    refine (run (fun k s i => laws_toCondS.l0 k l s i) (put (fun i => cvCond (l.getD i z24)) (List.replicate l.length z29)) l.length (4 * (N - l.length) + 6) (l.map cvCond) ?_ ?_ k (by omega))
    · intro k i hk hi
      obtain ⟨k, rfl⟩ : ∃ m, k = m + 1 := ⟨k - 1, by omega⟩
      have hlen : (put (fun i => cvCond (l.getD i z24)) (List.replicate l.length z29) i).length = l.length := by rw [put_length _ _ _ (by simp; omega), List.length_replicate]
      have hlt := nodesA_lt l _ (getD_mem l i z24 hi)
      rw [laws_toCondS.l0, if_pos (by omega), if_pos (by omega), rdCA, laws_toCond.f, ih (N - l.length) (by omega) _ k (by omega) (by omega) (by omega), Option.bind_some, Option.bind_some, if_pos (by omega), wrap_succ hi (by omega), Int.toNat_natCast]
      rw [← cvCond_eq, put_set (fun i => cvCond (l.getD i z24)) _ i (by simp; omega)]
    · intro k _
      simp only [laws_toCondS.l0]
      rw [if_neg (by omega), put_all _ _ (by simp), map_range_getD l z24 cvCond]
theorem toCond_of (a b c : Int) (l : List S24) (k : Nat) (h : nodesAS l ≤ 1048576) (hk : 4 * nodesAS l + 5 < k) : laws_toCond.f k a b c l = some (a, b, c, cvCondS l) := by
  obtain ⟨k, rfl⟩ : ∃ m, k = m + 1 := ⟨k - 1, by omega⟩
  simp only [laws_toCond.f]
  rw [toCondS_of (nodesAS l) l k (Nat.le_refl _) h (by omega), Option.bind_some]
/-! ### A tree is the same as itself -/
theorem eqCondS_of (N : Nat) : ∀ (l : List S29) (k : Nat), nodesBS l ≤ N → N ≤ 4194304 → 4 * N + 4 < k → laws_eqCondS.f k l l = some true := by
  induction N using Nat.strongRecOn with
  | _ N ih =>
    intro l k hN hN2 hk
    obtain ⟨k, rfl⟩ : ∃ m, k = m + 1 := ⟨k - 1, by omega⟩
    have hb := nodesBS_below l
    rw [laws_eqCondS.f, if_pos rfl]
    rcases Nat.eq_zero_or_pos l.length with hz | hz
    · obtain rfl : l = [] := List.eq_nil_of_length_eq_zero hz
      obtain ⟨k, rfl⟩ : ∃ m, k = m + 1 := ⟨k - 1, by omega⟩
      simp [laws_eqCondS.l0]
    refine (run (fun k (_ : Unit) i => laws_eqCondS.l0 k l l i) (fun _ => ()) l.length (4 * (N - l.length) + 6) true ?_ ?_ k (by omega))
    · intro k i hk hi
      obtain ⟨k, rfl⟩ : ∃ m, k = m + 1 := ⟨k - 1, by omega⟩
      have hlt := nodesB_lt l _ (getD_mem l i z29 hi)
      rw [laws_eqCondS.l0, if_pos (by omega), if_pos (by omega), if_pos (by omega), rdCB, laws_eqCond.f, if_pos rfl, if_pos rfl, if_pos rfl, ih (N - l.length) (by omega) _ k (by omega) (by omega) (by omega), Option.bind_some, if_pos rfl, Option.bind_some, if_pos rfl, wrap_succ hi (by omega)]
    · intro k _
      simp only [laws_eqCondS.l0]
      rw [if_neg (by omega)]
theorem eqCond_of (a b c : Int) (l : List S29) (k : Nat) (h : nodesBS l ≤ 4194304) (hk : 4 * nodesBS l + 5 < k) : laws_eqCond.f k a b c l a b c l = some true := by
  obtain ⟨k, rfl⟩ : ∃ m, k = m + 1 := ⟨k - 1, by omega⟩
  simp only [laws_eqCond.f, if_true]
  rw [eqCondS_of (nodesBS l) l k (Nat.le_refl _) h (by omega), Option.bind_some, if_pos rfl]
/-! ### Copies -/
theorem eta2 (x : S29) : (⟨x.f0, x.f1, x.f2, x.f3⟩ : S29) = x := by cases x; rfl
theorem take_at (l : List S29) (i : Nat) (h : i < l.length) : l.take i ++ [l.getD i z29] = l.take (i + 1) := by
  rw [List.take_succ_eq_append_getElem h, getD_get l i _ h]
theorem copy1 (N : Nat) : ∀ (a b c : Int) (l : List S29) (k : Nat), nodesBS l ≤ N → N ≤ 1048577 → 4 * N + 6 < k → spec_l15Copy.f k a b c l = some (a, b, c, l) := by
  induction N using Nat.strongRecOn with
  | _ N ih =>
    intro a b c l k hN hN2 hk
    obtain ⟨k, rfl⟩ : ∃ m, k = m + 1 := ⟨k - 1, by omega⟩
    have hb := nodesBS_below l
    rw [spec_l15Copy.f]
    have h0 : ([] : List S29) = l.take 0 := by simp
    rw [h0]
    rcases Nat.eq_zero_or_pos l.length with hz | hz
    · obtain rfl : l = [] := List.eq_nil_of_length_eq_zero hz
      obtain ⟨k, rfl⟩ : ∃ m, k = m + 1 := ⟨k - 1, by omega⟩
      simp [spec_l15Copy.l0]
    refine run (fun k s i => spec_l15Copy.l0 k i a b c l a b c s) (fun i => l.take i) l.length (4 * (N - l.length) + 7) (a, b, c, l) ?_ ?_ k (by omega)
    · intro k i hk hi
      have hlt := nodesB_lt l _ (getD_mem l i z29 hi)
      simp only [spec_l15Copy.l0, rdCB]
      rw [if_pos (by omega), if_pos (by omega), ih (N - l.length) (by omega) _ _ _ _ k (by omega) (by omega) (by omega), Option.bind_some, if_pos (by rw [List.length_take]; omega), wrap_succ hi (by omega), eta2, take_at l i hi]
    · intro k _
      simp only [spec_l15Copy.l0]
      rw [if_neg (by omega), List.take_length]
theorem copy2 (N : Nat) : ∀ (a b c : Int) (l : List S29) (k : Nat), nodesBS l ≤ N → N ≤ 1048577 → 4 * N + 6 < k → impl_copyCond.f k a b c l = some (a, b, c, l) := by
  induction N using Nat.strongRecOn with
  | _ N ih =>
    intro a b c l k hN hN2 hk
    obtain ⟨k, rfl⟩ : ∃ m, k = m + 1 := ⟨k - 1, by omega⟩
    have hb := nodesBS_below l
    rw [impl_copyCond.f]
    have h0 : ([] : List S29) = l.take 0 := by simp
    rw [h0]
    rcases Nat.eq_zero_or_pos l.length with hz | hz
    · obtain rfl : l = [] := List.eq_nil_of_length_eq_zero hz
      obtain ⟨k, rfl⟩ : ∃ m, k = m + 1 := ⟨k - 1, by omega⟩
      simp [impl_copyCond.l0]
    refine run (fun k s i => impl_copyCond.l0 k l (l.length : Int) i a b c s) (fun i => l.take i) l.length (4 * (N - l.length) + 7) (a, b, c, l) ?_ ?_ k (by omega)
    · intro k i hk hi
      have hlt := nodesB_lt l _ (getD_mem l i z29 hi)
      simp only [impl_copyCond.l0, rdCB]
      rw [if_pos (by omega), if_pos (by omega), if_pos (by omega), ih (N - l.length) (by omega) _ _ _ _ k (by omega) (by omega) (by omega), Option.bind_some, if_pos (by rw [List.length_take]; omega), wrap_succ hi (by omega), eta2, take_at l i hi]
    · intro k _
      simp only [impl_copyCond.l0]
      rw [if_neg (by omega), List.take_length]
/-! ### Marks, and what is held of them -/
theorem held_loop (N : Nat) : ∀ (rest done : List S29) (k : Int) (K : Nat), nodesBS rest ≤ N → 0 ≤ k → k + 3 * (nodesBS rest : Int) ≤ 1099511627776 → done.length + nodesBS rest ≤ 1099511627776 → 4 * nodesBS rest + 4 < K →
    (laws_markCondS.g rest k).1 = k + 3 * (nodesBS rest : Int) ∧ laws_heldCondS.l0 K (done ++ (laws_markCondS.g rest k).2) k (done.length : Int) = some (k + 3 * (nodesBS rest : Int)) := by
  induction N using Nat.strongRecOn with
  | _ N ih =>
    intro rest done k K hN h0 h1 hd hK
    obtain ⟨K, rfl⟩ : ∃ m, K = m + 1 := ⟨K - 1, by omega⟩
    cases rest with
    | nil =>
      rw [laws_markCondS.g, laws_heldCondS.l0]
      refine ⟨by rw [nodesBS]; simp, ?_⟩
      rw [if_neg (by simp), nodesBS]
      simp
    | cons x r =>
      have e1 : nodesBS (x :: r) = nodesB x + nodesBS r := by rw [nodesBS]
      have e2 := nodesB_eq x
      rw [e1, e2] at hN h1 hd hK ⊢
      obtain ⟨i1, i2⟩ := ih (nodesBS x.f3) (by omega) x.f3 [] (k + 1 + 1 + 1) (K - 1) (Nat.le_refl _) (by omega) (by omega) (by simp; omega) (by omega)
      have hg1 : laws_markCondS.g1 x k = (k + 1 + 1 + 1 + 3 * (nodesBS x.f3 : Int), ⟨k, k + 1, k + 1 + 1, (laws_markCondS.g x.f3 (k + 1 + 1 + 1)).2⟩) := by
        rw [laws_markCondS.g1_eq, wrap_in (x := k + 1) (by omega) (by omega), wrap_in (x := k + 1 + 1) (by omega) (by omega), wrap_in (x := k + 1 + 1 + 1) (by omega) (by omega), i1]
      obtain ⟨j1, j2⟩ := ih (nodesBS r) (by omega) r (done ++ [⟨k, k + 1, k + 1 + 1, (laws_markCondS.g x.f3 (k + 1 + 1 + 1)).2⟩]) (k + 1 + 1 + 1 + 3 * (nodesBS x.f3 : Int)) K (Nat.le_refl _) (by omega) (by omega) (by rw [List.length_append, List.length_singleton]; omega) (by omega)
      have hgc : laws_markCondS.g (x :: r) k = ((laws_markCondS.g r (k + 1 + 1 + 1 + 3 * (nodesBS x.f3 : Int))).1, ⟨k, k + 1, k + 1 + 1, (laws_markCondS.g x.f3 (k + 1 + 1 + 1)).2⟩ :: (laws_markCondS.g r (k + 1 + 1 + 1 + 3 * (nodesBS x.f3 : Int))).2) := by
        rw [laws_markCondS.g, hg1]
      rw [hgc]
      have hlen : ((done.length + 1 : Nat) : Int) ≤ 1099511627776 := by omega
      have hh : laws_heldCondS.f K (laws_markCondS.g x.f3 (k + 1 + 1 + 1)).2 (k + 1 + 1 + 1) = some (k + 1 + 1 + 1 + 3 * (nodesBS x.f3 : Int)) := by
        obtain ⟨K, rfl⟩ : ∃ m, K = m + 1 := ⟨K - 1, by omega⟩
        rw [laws_heldCondS.f]
        simpa using i2
      clear i2 hg1 hgc i1 ih
      generalize (laws_markCondS.g x.f3 (k + 1 + 1 + 1)).2 = M1 at hh j2 ⊢
      rw [List.length_append, List.length_singleton] at j2
      rw [j1]
      clear j1
      generalize (laws_markCondS.g r (k + 1 + 1 + 1 + 3 * (nodesBS x.f3 : Int))).2 = M2 at j2 ⊢
      have hw : wrap64 ((done.length : Int) + 1) = ((done.length + 1 : Nat) : Int) := by
        rw [wrap_in (by omega) (by omega)]
        omega
      have hrd : rd_T29 (done ++ (⟨k, k + 1, k + 1 + 1, M1⟩ : S29) :: M2) (done.length : Int) = ⟨k, k + 1, k + 1 + 1, M1⟩ := by
        rw [rdCB, laws_markCondS.get_at]
      have hl : ((done.length : Nat) : Int) < ((done ++ (⟨k, k + 1, k + 1 + 1, M1⟩ : S29) :: M2).length : Int) := by
        rw [List.length_append, List.length_cons]
        omega
      have ht : k + 1 + 1 + 1 + 3 * (nodesBS x.f3 : Int) + 3 * (nodesBS r : Int) = k + 3 * ((1 + nodesBS x.f3 + nodesBS r : Nat) : Int) := by omega
      have hp : (0 : Int) ≤ (done.length : Int) := by omega
      have hn : ¬ k + 1 + 1 + 1 + 3 * (nodesBS x.f3 : Int) < 0 := by omega
      have w1 : wrap64 (k + 1) = k + 1 := wrap_in (by omega) (by omega)
      have w2 : wrap64 (k + 1 + 1) = k + 1 + 1 := wrap_in (by omega) (by omega)
      have w3 : wrap64 (k + 1 + 1 + 1) = k + 1 + 1 + 1 := wrap_in (by omega) (by omega)
      refine ⟨ht, ?_⟩
      rw [laws_heldCondS.l0, if_pos hl, if_pos hp, hrd]
      simp only [w1, w2, w3, hw, if_true]
      rw [hh, Option.bind_some, if_neg hn, List.append_cons, j2, ht]
theorem marked (L : List S29) (h : nodesBS L ≤ 4194304) : ∃ (m : Int) (M : List S29), laws_markCondS.g L 1 = (m, M) ∧ 0 ≤ m ∧ ∀ K, 4 * nodesBS L + 6 < K → laws_heldCondS.f K M 1 = some m := by
  refine ⟨(laws_markCondS.g L 1).1, (laws_markCondS.g L 1).2, rfl, ?_, fun K hK => ?_⟩
  · rw [(held_loop (nodesBS L) L [] 1 (4 * nodesBS L + 5) (Nat.le_refl _) (by omega) (by omega) (by simp; omega) (by omega)).1]
    omega
  · obtain ⟨K, rfl⟩ : ∃ m, K = m + 1 := ⟨K - 1, by omega⟩
    obtain ⟨i1, i2⟩ := held_loop (nodesBS L) L [] 1 K (Nat.le_refl _) (by omega) (by omega) (by simp; omega) (by omega)
    rw [laws_heldCondS.f, i1]
    simpa using i2
theorem marked_to (L : List S29) (h : nodesBS L ≤ 4194304) : (laws_markCondS.g L 1).1 = 1 + 3 * (nodesBS L : Int) := (held_loop (nodesBS L) L [] 1 (4 * nodesBS L + 5) (Nat.le_refl _) (by omega) (by omega) (by simp; omega) (by omega)).1
theorem markedFrom (L : List S29) (a : Int) (h0 : 0 ≤ a) (h1 : a ≤ 4294967296) (h : nodesBS L ≤ 4194304) : ∃ (m : Int) (M : List S29), laws_markCondS.g L a = (m, M) ∧ 0 ≤ m ∧ ∀ K, 4 * nodesBS L + 6 < K → laws_heldCondS.f K M a = some m := by
  refine ⟨(laws_markCondS.g L a).1, (laws_markCondS.g L a).2, rfl, ?_, fun K hK => ?_⟩
  · rw [(held_loop (nodesBS L) L [] a (4 * nodesBS L + 5) (Nat.le_refl _) (by omega) (by omega) (by simp; omega) (by omega)).1]
    omega
  · obtain ⟨K, rfl⟩ : ∃ m, K = m + 1 := ⟨K - 1, by omega⟩
    obtain ⟨i1, i2⟩ := held_loop (nodesBS L) L [] a K (Nat.le_refl _) (by omega) (by omega) (by simp; omega) (by omega)
    rw [laws_heldCondS.f, i1]
    simpa using i2
open Classical in
noncomputable def sameC (x y : S29) : Bool := decide (x = y)
open Classical in
noncomputable def sameCS (l m : List S29) : Bool := decide (l = m)
open Classical in
theorem sameC_iff (x y : S29) : sameC x y = true ↔ x = y := by unfold sameC; exact decide_eq_true_iff
open Classical in
theorem sameCS_iff (l m : List S29) : sameCS l m = true ↔ l = m := by unfold sameCS; exact decide_eq_true_iff
theorem etaB (x : S29) : (⟨x.f0, x.f1, x.f2, x.f3⟩ : S29) = x := by cases x; rfl
theorem sameCS_all (l m : List S29) (h : l.length = m.length) : (if (List.range l.length).all (fun i => sameC (l.getD i z29) (m.getD i z29)) = true then true else false) = sameCS l m := by
  by_cases g : l = m
  · subst g
    rw [(sameCS_iff l l).2 rfl, if_pos]
    rw [List.all_eq_true]
    exact fun i _ => (sameC_iff _ _).2 rfl
  · rw [Bool.eq_false_iff.2 (fun e => g ((sameCS_iff l m).1 e)), if_neg]
    intro e
    rw [List.all_eq_true] at e
    refine g (List.ext_getElem h fun i h1 h2 => ?_)
    have := (sameC_iff _ _).1 (e i (List.mem_range.2 h1))
    rwa [getD_get l i _ h1, getD_get m i _ h2] at this
theorem sameC_of (a b c : Int) (l m : List S29) : sameC ⟨a, b, c, l⟩ ⟨a, b, c, m⟩ = sameCS l m := by
  by_cases g : l = m
  · subst g; rw [(sameCS_iff l l).2 rfl, (sameC_iff _ _).2 rfl]
  · rw [Bool.eq_false_iff.2 (fun e => g ((sameCS_iff l m).1 e)), Bool.eq_false_iff]
    intro e
    have := (sameC_iff _ _).1 e
    cases this
    exact g rfl
theorem sameC_no (x y : S29) (h : x ≠ y) : sameC x y = false := Bool.eq_false_iff.2 (fun e => h ((sameC_iff x y).1 e))
theorem equal1 (N : Nat) : ∀ (a b c : Int) (l : List S29) (a' b' c' : Int) (m : List S29) (k : Nat), nodesBS l ≤ N → N ≤ 1048576 → 4 * N + 8 < k → spec_EqualConds.f k a b c l a' b' c' m = some (sameC ⟨a, b, c, l⟩ ⟨a', b', c', m⟩) := by
  induction N using Nat.strongRecOn with
  | _ N ih =>
    intro a b c l a' b' c' m k hN hN2 hk
    obtain ⟨k, rfl⟩ : ∃ m, k = m + 1 + 1 := ⟨k - 2, by omega⟩
    have hb := nodesBS_below l
    rw [spec_EqualConds.f]
    have hf : spec_EqualConds.j0 (k + 1) true a b c l a' b' c' m = some false := by rw [spec_EqualConds.j0, if_pos rfl]
    by_cases ha : a = a'
    · by_cases hb' : b = b'
      · by_cases hc : c = c'
        · subst ha hb' hc
          rw [if_pos rfl, if_pos rfl, if_pos rfl, sameC_of, spec_EqualConds.j0]
          by_cases hl : l.length = m.length
          · rw [if_neg (by simp; omega)]
            rcases Nat.eq_zero_or_pos l.length with hz | hz
            · obtain rfl : l = [] := List.eq_nil_of_length_eq_zero hz
              obtain rfl : m = [] := List.eq_nil_of_length_eq_zero (by simpa using hl.symm)
              obtain ⟨k, rfl⟩ : ∃ m, k = m + 1 := ⟨k - 1, by omega⟩
              rw [spec_EqualConds.l0, if_neg (by simp), (sameCS_iff _ _).2 rfl]
            rw [allLoop (fun k i => spec_EqualConds.l0 k i a b c l a b c m) l.length (4 * (N - l.length) + 9) (fun i => sameC (l.getD i z29) (m.getD i z29)) false true ?_ ?_ ?_ k (by omega), sameCS_all l m hl]
            · intro k i hk hi hp
              have hlt := nodesB_lt l _ (getD_mem l i z29 hi)
              rw [spec_EqualConds.l0, if_pos (by omega), if_pos (by omega), if_pos (by omega), rdCB, rdCB, ih (N - l.length) (by omega) _ _ _ _ _ _ _ _ k (by omega) (by omega) (by omega), Option.bind_some, etaB, etaB, if_pos hp, wrap_succ hi (by omega)]
            · intro k i hk hi hp
              have hlt := nodesB_lt l _ (getD_mem l i z29 hi)
              rw [spec_EqualConds.l0, if_pos (by omega), if_pos (by omega), if_pos (by omega), rdCB, rdCB, ih (N - l.length) (by omega) _ _ _ _ _ _ _ _ k (by omega) (by omega) (by omega), Option.bind_some, etaB, etaB, hp, if_neg (by simp)]
            · intro k _
              rw [spec_EqualConds.l0, if_neg (by omega)]
          · have hs : sameCS l m = false := Bool.eq_false_iff.2 (fun e => hl (by rw [(sameCS_iff l m).1 e]))
            rw [if_pos (by simp; omega), hs]
        · rw [if_pos ha, if_pos hb', if_neg hc, hf, sameC_no _ _ (fun e => hc (by cases e; rfl))]
      · rw [if_pos ha, if_neg hb', hf, sameC_no _ _ (fun e => hb' (by cases e; rfl))]
    · rw [if_neg ha, hf, sameC_no _ _ (fun e => ha (by cases e; rfl))]
theorem equal2C (N : Nat) : ∀ (a b c : Int) (l : List S29) (a' b' c' : Int) (m : List S29) (k : Nat), nodesBS l ≤ N → N ≤ 1048576 → 4 * N + 8 < k → impl_EqualConds.f k a b c l a' b' c' m = some (sameC ⟨a, b, c, l⟩ ⟨a', b', c', m⟩) := by
  induction N using Nat.strongRecOn with
  | _ N ih =>
    intro a b c l a' b' c' m k hN hN2 hk
    obtain ⟨k, rfl⟩ : ∃ m, k = m + 1 + 1 := ⟨k - 2, by omega⟩
    have hb := nodesBS_below l
    rw [impl_EqualConds.f]
    by_cases ha : a = a'
    · by_cases hb' : b = b'
      · by_cases hc : c = c'
        · subst ha hb' hc
          rw [if_pos rfl, if_pos rfl, if_pos rfl, sameC_of, impl_Cond.f]
          by_cases hl : l.length = m.length
          · rw [if_pos (by omega)]
            rcases Nat.eq_zero_or_pos l.length with hz | hz
            · obtain rfl : l = [] := List.eq_nil_of_length_eq_zero hz
              obtain rfl : m = [] := List.eq_nil_of_length_eq_zero (by simpa using hl.symm)
              obtain ⟨k, rfl⟩ : ∃ m, k = m + 1 := ⟨k - 1, by omega⟩
              rw [impl_Cond.l0, if_neg (by simp), (sameCS_iff _ _).2 rfl]
              rfl
            rw [allLoop (fun k i => impl_Cond.l0 k m l (l.length : Int) i) l.length (4 * (N - l.length) + 9) (fun i => sameC (l.getD i z29) (m.getD i z29)) false true ?_ ?_ ?_ k (by omega), sameCS_all l m hl]
            · rfl
            · intro k i hk hi hp
              have hlt := nodesB_lt l _ (getD_mem l i z29 hi)
              rw [impl_Cond.l0, if_pos (by omega), if_pos (by omega), if_pos (by omega), if_pos (by omega), rdCB, rdCB, ih (N - l.length) (by omega) _ _ _ _ _ _ _ _ k (by omega) (by omega) (by omega), Option.bind_some, etaB, etaB, if_pos hp, wrap_succ hi (by omega)]
            · intro k i hk hi hp
              have hlt := nodesB_lt l _ (getD_mem l i z29 hi)
              rw [impl_Cond.l0, if_pos (by omega), if_pos (by omega), if_pos (by omega), if_pos (by omega), rdCB, rdCB, ih (N - l.length) (by omega) _ _ _ _ _ _ _ _ k (by omega) (by omega) (by omega), Option.bind_some, etaB, etaB, hp, if_neg (by simp)]
            · intro k _
              rw [impl_Cond.l0, if_neg (by omega)]
          · have hs : sameCS l m = false := Bool.eq_false_iff.2 (fun e => hl (by rw [(sameCS_iff l m).1 e]))
            rw [if_neg (by omega), hs]
            rfl
        · rw [if_pos ha, if_pos hb', if_neg hc, sameC_no _ _ (fun e => hc (by cases e; rfl))]
      · rw [if_pos ha, if_neg hb', sameC_no _ _ (fun e => hb' (by cases e; rfl))]
    · rw [if_neg ha, sameC_no _ _ (fun e => ha (by cases e; rfl))]
mutual
/-- The leaves of a node that a list lacks, behind it. -/
noncomputable def leavesX : S29 → List S29 → List S29
  | ⟨a, b, c, m⟩, l => if m.length = 0 ∧ 2 ≤ a ∧ a ≤ 6 then (if (l.any fun y => sameC y ⟨a, b, c, m⟩) = true then l else l ++ [⟨a, b, c, m⟩]) else leavesXS m l
noncomputable def leavesXS : List S29 → List S29 → List S29
  | [], l => l
  | y :: t, l => leavesXS t (leavesX y l)
end
theorem leavesX_eq (x : S29) (l : List S29) : leavesX x l = if x.f3.length = 0 ∧ 2 ≤ x.f0 ∧ x.f0 ≤ 6 then (if (l.any fun y => sameC y x) = true then l else l ++ [x]) else leavesXS x.f3 l := by
  cases x
  rw [leavesX]
def bare (l : List S29) : Prop := ∀ y ∈ l, y.f3 = []
theorem bare_nodes (l : List S29) (h : bare l) : nodesBS l = l.length := by
  induction l with
  | nil => rw [nodesBS]; rfl
  | cons y t ih =>
    rw [nodesBS, nodesB_eq, h y List.mem_cons_self, ih (fun z hz => h z (List.mem_cons_of_mem _ hz)), nodesBS, List.length_cons]
    omega
/-- What comes out is bare, and no longer than what there is. -/
theorem leaves_bare (N : Nat) : (∀ (x : S29) (l : List S29), nodesB x ≤ N → bare l → bare (leavesX x l) ∧ (leavesX x l).length ≤ l.length + nodesB x) ∧ (∀ (m : List S29) (l : List S29), nodesBS m ≤ N → bare l → bare (leavesXS m l) ∧ (leavesXS m l).length ≤ l.length + nodesBS m) := by
  induction N with
  | zero =>
    refine ⟨fun x l h _ => ?_, fun m l h hb => ?_⟩
    · rw [nodesB_eq] at h
      omega
    · cases m with
      | nil => rw [leavesXS]; exact ⟨hb, by omega⟩
      | cons y t => rw [nodesBS, nodesB_eq] at h; omega
  | succ N ih =>
    have hX : ∀ (x : S29) (l : List S29), nodesB x ≤ N + 1 → bare l → bare (leavesX x l) ∧ (leavesX x l).length ≤ l.length + nodesB x := by
      intro x l h hb
      rw [nodesB_eq] at h ⊢
      rw [leavesX_eq]
      by_cases c : x.f3.length = 0 ∧ 2 ≤ x.f0 ∧ x.f0 ≤ 6
      · rw [if_pos c]
        split
        · exact ⟨hb, by omega⟩
        · refine ⟨fun y hy => ?_, by rw [List.length_append]; simp⟩
          rcases List.mem_append.1 hy with hy | hy
          · exact hb y hy
          · rw [List.mem_singleton.1 hy]
            exact List.length_eq_zero_iff.1 c.1
      · rw [if_neg c]
        obtain ⟨g1, g2⟩ := ih.2 x.f3 l (by omega) hb
        exact ⟨g1, by omega⟩
    refine ⟨hX, fun m => ?_⟩
    induction m with
    | nil => intro l _ hb; rw [leavesXS]; exact ⟨hb, by omega⟩
    | cons y t iht =>
      intro l h hb
      rw [nodesBS] at h ⊢
      rw [leavesXS]
      obtain ⟨g1, g2⟩ := hX y l (by omega) hb
      obtain ⟨h1, h2⟩ := iht (leavesX y l) (by omega) g1
      exact ⟨h1, by omega⟩
theorem hasLeaf1 (k : Nat) (hk : 8 < k) (x : S29) (l : List S29) (hb : bare l) : spec_LeavesOf.has k x l = some (l.any fun y => sameC y x) := by
  induction l with
  | nil => rfl
  | cons y t ih =>
    have hy : y.f3 = [] := hb y List.mem_cons_self
    rw [spec_LeavesOf.has, equal1 0 y.f0 y.f1 y.f2 y.f3 x.f0 x.f1 x.f2 x.f3 k (by rw [hy, nodesBS]; exact Nat.le_refl _) (by omega) (by omega), Option.bind_some, etaB, etaB, ih (fun z hz => hb z (List.mem_cons_of_mem _ hz)), List.any_cons]
    cases sameC y x
    · rw [if_neg (by simp), Bool.false_or]
    · rw [if_pos rfl, Bool.true_or]
theorem leaves1 (N : Nat) : ∀ (x : S29) (l : List S29) (k : Nat), nodesB x ≤ N → N ≤ 1048577 → bare l → l.length + nodesB x ≤ 4194304 → 4 * N + 12 < k → spec_LeavesOf.g k x l = some (leavesX x l) := by
  induction N with
  | zero => intro x l k h; rw [nodesB_eq] at h; omega
  | succ N ih =>
    intro x l k h hN hb hl hk
    obtain ⟨k, rfl⟩ : ∃ m, k = m + 1 := ⟨k - 1, by omega⟩
    rw [spec_LeavesOf.g, leavesX_eq]
    rw [nodesB_eq] at h hl
    by_cases c : x.f3.length = 0 ∧ 2 ≤ x.f0 ∧ x.f0 ≤ 6
    · rw [if_pos c, if_pos c, hasLeaf1 k (by omega) x l hb, Option.bind_some]
      split
      · rfl
      · rw [copy1 0 x.f0 x.f1 x.f2 x.f3 k (by rw [List.length_eq_zero_iff.1 c.1, nodesBS]; exact Nat.le_refl _) (by omega) (by omega), Option.bind_some, if_pos (by omega)]
        cases x
        rfl
    · rw [if_neg c, if_neg c]
      have key : ∀ (m : List S29) (l : List S29), nodesBS m ≤ N → bare l → l.length + nodesBS m ≤ 4194304 → m.foldlM (fun l y => spec_LeavesOf.g k y l) l = some (leavesXS m l) := by
        intro m
        induction m with
        | nil => intro l _ _ _; rw [leavesXS]; rfl
        | cons y t iht =>
          intro l h1 h2 h3
          rw [nodesBS] at h1 h3
          obtain ⟨g1, g2⟩ := (leaves_bare N).1 y l (by omega) h2
          rw [List.foldlM_cons, ih y l k (by omega) (by omega) h2 (by omega) (by omega), leavesXS]
          exact iht _ (by omega) g1 (by omega)
      exact key x.f3 l (by omega) hb (by omega)
theorem hasLeaf2 (k : Nat) (hk : 8 < k) (x : S29) (l : List S29) (hb : bare l) : impl_LeavesOf.has k x l = some (l.any fun y => sameC y x) := by
  induction l with
  | nil => rfl
  | cons y t ih =>
    have hy : y.f3 = [] := hb y List.mem_cons_self
    rw [impl_LeavesOf.has, equal2C 0 y.f0 y.f1 y.f2 y.f3 x.f0 x.f1 x.f2 x.f3 k (by rw [hy, nodesBS]; exact Nat.le_refl _) (by omega) (by omega), Option.bind_some, etaB, etaB, ih (fun z hz => hb z (List.mem_cons_of_mem _ hz)), List.any_cons]
    cases sameC y x
    · rw [if_neg (by simp), Bool.false_or]
    · rw [if_pos rfl, Bool.true_or]
theorem leaves2 (N : Nat) : ∀ (x : S29) (l : List S29) (k : Nat), nodesB x ≤ N → N ≤ 1048577 → bare l → l.length + nodesB x ≤ 4194304 → 4 * N + 12 < k → impl_LeavesOf.g k x l = some (leavesX x l) := by
  induction N with
  | zero => intro x l k h; rw [nodesB_eq] at h; omega
  | succ N ih =>
    intro x l k h hN hb hl hk
    obtain ⟨k, rfl⟩ : ∃ m, k = m + 1 := ⟨k - 1, by omega⟩
    rw [impl_LeavesOf.g, leavesX_eq]
    rw [nodesB_eq] at h hl
    by_cases c : x.f3.length = 0 ∧ 2 ≤ x.f0 ∧ x.f0 ≤ 6
    · rw [if_pos ⟨c.2.1, c.2.2, c.1⟩, if_pos c, hasLeaf2 k (by omega) x l hb, Option.bind_some]
      have h0 := List.length_eq_zero_iff.1 c.1
      split
      · rw [Option.bind_some, h0]; rfl
      · rw [copy2 0 x.f0 x.f1 x.f2 x.f3 k (by rw [h0, nodesBS]; exact Nat.le_refl _) (by omega) (by omega), Option.bind_some, if_pos (by omega), Option.bind_some, h0]
        cases x
        simp only at h0
        subst h0
        rfl
    · rw [if_neg (fun q => c ⟨q.2.2, q.1, q.2.1⟩), if_neg c, Option.bind_some]
      have key : ∀ (m : List S29) (l : List S29), nodesBS m ≤ N → bare l → l.length + nodesBS m ≤ 4194304 → m.foldlM (fun l y => impl_LeavesOf.g k y l) l = some (leavesXS m l) := by
        intro m
        induction m with
        | nil => intro l _ _ _; rw [leavesXS]; rfl
        | cons y t iht =>
          intro l h1 h2 h3
          rw [nodesBS] at h1 h3
          obtain ⟨g1, g2⟩ := (leaves_bare N).1 y l (by omega) h2
          rw [List.foldlM_cons, ih y l k (by omega) (by omega) h2 (by omega) (by omega), leavesXS]
          exact iht _ (by omega) g1 (by omega)
      exact key x.f3 l (by omega) hb (by omega)
theorem FnExactLeavesOf : laws_FnExactLeavesOf.Pure := by
  intro a b c l _ _ _ hw
  suffices h : ∀ k, 4 * nodesAS l + 8000000 < k → laws_FnExactLeavesOf.f k a b c l = some true from ⟨4 * nodesAS l + 8000001, h _ (by omega)⟩
  intro k hk
  unfold laws_FnExactLeavesOf.f
  rw [szCond_of a b c l 1048576 k hw.2 hw.1 (by omega) (by omega) (by omega), Option.bind_some]
  by_cases h : (nodesAS l : Int) ≤ 1048576
  · have hn : nodesBS (cvCondS l) = nodesAS l := cv_nodes _ l (Nat.le_refl _)
    have hx : nodesB ⟨a, b, c, cvCondS l⟩ = nodesAS l + 1 := by
      rw [nodesB_eq, ← hn]
      simp only
      omega
    have hnil : bare ([] : List S29) := fun y hy => by cases hy
    obtain ⟨hb, hlen⟩ := (leaves_bare (nodesAS l + 1)).1 ⟨a, b, c, cvCondS l⟩ [] (by omega) hnil
    have A1 := leaves1 (nodesAS l + 1) ⟨a, b, c, cvCondS l⟩ [] k (by omega) (by omega) hnil (by simp; omega) (by omega)
    have A2 := leaves2 (nodesAS l + 1) ⟨a, b, c, cvCondS l⟩ [] k (by omega) (by omega) hnil (by simp; omega) (by omega)
    have hR := bare_nodes _ hb
    generalize leavesX ⟨a, b, c, cvCondS l⟩ [] = R at hb hlen A1 A2 hR
    rw [hx] at hlen
    have hlen' : R.length ≤ nodesAS l + 1 := by simpa using hlen
    obtain ⟨m1, M1, g1, p1, q1⟩ := marked (cvCondS l) (by omega)
    obtain ⟨m2, M2, g2, p2, q2⟩ := marked R (by omega)
    have E := eqCondS_of (nodesBS R) R k (Nat.le_refl _) (by omega) (by omega)
    rw [if_pos h, if_neg (by omega)]
    simp only [toCond_of a b c l k (by omega) (by omega), spec_LeavesOf.f, impl_LeavesOf.f, A1, A2, E, eqCond_of a b c (cvCondS l) k (by omega) (by omega), laws_markCond.f, laws_markCondS.f, g1, g2, q2 k (by omega), Option.bind_some, if_true, if_neg (show ¬ m1 < 0 by omega), if_neg (show ¬ m2 < 0 by omega)]
  · rw [if_neg h, if_pos (by omega)]
end Go.Proofs.Ythjhenhmjmpkaaa.Pure
