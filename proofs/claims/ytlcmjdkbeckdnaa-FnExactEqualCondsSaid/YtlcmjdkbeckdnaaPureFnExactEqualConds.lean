/- FnExactEqualConds: the program's EqualConds answers what the reference's answers, for all two conditions. Conditions: none. -/
import Derived.Test.YtlcmjdkbeckdnaaLib
import Derived.Test.YtlcmjdkbeckdnaaXFnExactEqualCondsx3
namespace Go.Proofs.Ytlcmjdkbeckdnaa.Pure
open Go.RowKit Go.Proofs.Ytlcmjdkbeckdnaa.XFnExactEqualConds Go.Proofs.YtlcmjdkbeckdnaaW.PrintWords
set_option linter.unusedVariables false
set_option linter.unusedSimpArgs false
open Go.Proofs.YtlcmjdkbeckdnaaLib
/-! ### Trees: how many nodes, and how many rounds -/
mutual
def nodesA : S24 → Nat
  | ⟨_, _, _, l⟩ => 1 + nodesAS l
def nodesAS : List S24 → Nat
  | [] => 0
  | x :: l => nodesA x + nodesAS l
end
mutual
def nodesB : S29 → Nat
  | ⟨_, _, _, l⟩ => 1 + nodesBS l
def nodesBS : List S29 → Nat
  | [] => 0
  | x :: l => nodesB x + nodesBS l
end
theorem nodesA_eq (x : S24) : nodesA x = 1 + nodesAS x.f3 := by cases x; rw [nodesA]
theorem nodesB_eq (x : S29) : nodesB x = 1 + nodesBS x.f3 := by cases x; rw [nodesB]
theorem nodesAS_sum (l : List S24) : nodesAS l = (l.map nodesA).sum := by
  induction l with
  | nil => rw [nodesAS]; rfl
  | cons x l ih => rw [nodesAS, ih]; rfl
theorem nodesBS_sum (l : List S29) : nodesBS l = (l.map nodesB).sum := by
  induction l with
  | nil => rw [nodesBS]; rfl
  | cons x l ih => rw [nodesBS, ih]; rfl
theorem nodesAS_below (l : List S24) : nodesAS l = l.length + (l.map fun x => nodesAS x.f3).sum := by
  induction l with
  | nil => rw [nodesAS]; rfl
  | cons x l ih =>
    rw [nodesAS, ih, nodesA_eq, List.map_cons, List.sum_cons, List.length_cons]
    omega
theorem nodesBS_below (l : List S29) : nodesBS l = l.length + (l.map fun x => nodesBS x.f3).sum := by
  induction l with
  | nil => rw [nodesBS]; rfl
  | cons x l ih =>
    rw [nodesBS, ih, nodesB_eq, List.map_cons, List.sum_cons, List.length_cons]
    omega
theorem nodesA_lt (l : List S24) (x : S24) (h : x ∈ l) : nodesAS x.f3 + l.length ≤ nodesAS l := by
  have := le_sum (fun x : S24 => nodesAS x.f3) l x h
  rw [nodesAS_below l]
  omega
theorem nodesB_lt (l : List S29) (x : S29) (h : x ∈ l) : nodesBS x.f3 + l.length ≤ nodesBS l := by
  have := le_sum (fun x : S29 => nodesBS x.f3) l x h
  rw [nodesBS_below l]
  omega
theorem rdCA (l : List S24) (i : Nat) : rd_T24 l (i : Int) = l.getD i z24 := by
  unfold rd_T24
  rw [Int.toNat_natCast]
theorem rdCB (l : List S29) (i : Nat) : rd_T29 l (i : Int) = l.getD i z29 := by
  unfold rd_T29
  rw [Int.toNat_natCast]
/-! ### The size that is left -/
theorem szCondS_of (N : Nat) : ∀ (l : List S24) (a : Int) (k : Nat), nodesAS l ≤ N → (∀ x ∈ l, wf24 x) → l.length ≤ maxLen → 0 ≤ a → a ≤ 1048576 → 4 * N + 4 < k → laws_szCondS.f k l a = some (if (nodesAS l : Int) ≤ a then a - (nodesAS l : Int) else -1) := by
  induction N using Nat.strongRecOn with
  | _ N ih =>
    intro l a k hN hw hlen h0 h1 hk
    obtain ⟨k, rfl⟩ : ∃ m, k = m + 1 := ⟨k - 1, by omega⟩
    simp only [laws_szCondS.f]
    unfold maxLen at hlen
    have hb := nodesAS_below l
    rw [wrap_in (by omega) (by omega)]
    by_cases h : (l.length : Int) ≤ a
    · rw [if_neg (by omega), hb]
      rcases Nat.eq_zero_or_pos l.length with hz | hz
      · obtain rfl : l = [] := List.eq_nil_of_length_eq_zero hz
        obtain ⟨k, rfl⟩ : ∃ m, k = m + 1 := ⟨k - 1, by omega⟩
        rw [laws_szCondS.l0, if_neg (by simp)]
        simp [h0]
      have hx : ∀ k i a', 4 * (N - l.length) + 6 ≤ k → i < l.length → 0 ≤ a' → a' ≤ 1048576 → laws_szCondS.l0 (k + 1) l a' (i : Int) = if (nodesAS (l.getD i z24).f3 : Int) ≤ a' then laws_szCondS.l0 k l (a' - (nodesAS (l.getD i z24).f3 : Int)) ((i + 1 : Nat) : Int) else some (-1) := by
        intro k i a' hk hi g0 g1
        obtain ⟨k, rfl⟩ : ∃ m, k = m + 1 := ⟨k - 1, by omega⟩
        have hm := getD_mem l i z24 hi
        have hlt := nodesA_lt l _ hm
        have hww := hw _ hm
        rw [laws_szCondS.l0, if_pos (by omega), if_pos (by omega), rdCA, laws_szCond.f]
        generalize l.getD i z24 = x at hm hlt hww ⊢
        cases hww with
        | mk f0 f1 f2 f3 _ _ _ hl3 hw3 =>
          simp only at hlt ⊢
          rw [ih (N - l.length) (by omega) f3 a' k (by omega) hw3 hl3 g0 g1 (by omega), Option.bind_some, wrap_succ hi (by omega)]
          by_cases g : (nodesAS f3 : Int) ≤ a'
          · rw [if_pos g, if_neg (by omega), Option.bind_some, if_neg (by omega), if_pos g]
          · rw [if_neg g, if_pos (by omega), Option.bind_some, if_pos (by omega), if_neg g]
      rw [szLoop (fun k a i => laws_szCondS.l0 k l a i) l z24 (fun x => nodesAS x.f3) (4 * (N - l.length) + 6) 1048576 hx ?_ k (a - (l.length : Int)) (by omega) (by omega) (by omega)]
      · generalize (l.map fun x => nodesAS x.f3).sum = s
        by_cases g : (s : Int) ≤ a - (l.length : Int)
        · rw [if_pos g, if_pos (by omega)]; congr 1; omega
        · rw [if_neg g, if_neg (by omega)]
      · intro k a' _
        simp only [laws_szCondS.l0]
        rw [if_neg (by omega)]
    · rw [if_pos (by omega), if_neg (by omega)]
theorem szCond_of (a b c : Int) (l : List S24) (n : Int) (k : Nat) (hw : ∀ x ∈ l, wf24 x) (hlen : l.length ≤ maxLen) (h0 : 0 ≤ n) (h1 : n ≤ 1048576) (hk : 4 * nodesAS l + 5 < k) : laws_szCond.f k a b c l n = some (if (nodesAS l : Int) ≤ n then n - (nodesAS l : Int) else -1) := by
  obtain ⟨k, rfl⟩ : ∃ m, k = m + 1 := ⟨k - 1, by omega⟩
  simp only [laws_szCond.f]
  rw [szCondS_of (nodesAS l) l n k (Nat.le_refl _) hw hlen h0 h1 (by omega), Option.bind_some]
  by_cases g : (nodesAS l : Int) ≤ n
  · rw [if_pos g, if_neg (by omega)]
  · rw [if_neg g, if_pos (by omega)]
/-! ### The tree that the program reads -/
mutual
def cvCond : S24 → S29
  | ⟨a, b, c, l⟩ => ⟨a, b, c, cvCondS l⟩
def cvCondS : List S24 → List S29
  | [] => []
  | x :: l => cvCond x :: cvCondS l
end
theorem cvCond_eq (x : S24) : cvCond x = ⟨x.f0, x.f1, x.f2, cvCondS x.f3⟩ := by cases x; rw [cvCond]
theorem cvCondS_map (l : List S24) : cvCondS l = l.map cvCond := by
  induction l with
  | nil => rw [cvCondS]; rfl
  | cons x l ih => rw [cvCondS, ih]; rfl
theorem cv_nodes (N : Nat) : ∀ l : List S24, nodesAS l ≤ N → nodesBS (cvCondS l) = nodesAS l := by
  induction N with
  | zero =>
    intro l h
    have := nodesAS_below l
    obtain rfl : l = [] := List.eq_nil_of_length_eq_zero (by omega)
    rw [cvCondS, nodesBS, nodesAS]
  | succ N ih =>
    intro l
    induction l with
    | nil => intro _; rw [cvCondS, nodesBS, nodesAS]
    | cons x l il =>
      intro h
      rw [nodesAS] at h
      have hx := nodesA_eq x
      rw [cvCondS, nodesBS, nodesAS, il (by omega), nodesB_eq, cvCond_eq, ih x.f3 (by omega), hx]
theorem toCondS_of (N : Nat) : ∀ (l : List S24) (k : Nat), nodesAS l ≤ N → N ≤ 1048576 → 4 * N + 4 < k → laws_toCondS.f k l = some (cvCondS l) := by
  induction N using Nat.strongRecOn with
  | _ N ih =>
    intro l k hN hN2 hk
    obtain ⟨k, rfl⟩ : ∃ m, k = m + 1 := ⟨k - 1, by omega⟩
    have hb := nodesAS_below l
    simp only [laws_toCondS.f]
    rw [if_pos (by omega), if_pos (by omega), Int.toNat_natCast, cvCondS_map]
    rcases Nat.eq_zero_or_pos l.length with hz | hz
    · obtain rfl : l = [] := List.eq_nil_of_length_eq_zero hz
      obtain ⟨k, rfl⟩ : ∃ m, k = m + 1 := ⟨k - 1, by omega⟩
      simp [laws_toCondS.l0]
    refine (run (fun k s i => laws_toCondS.l0 k l s i) (put (fun i => cvCond (l.getD i z24)) (List.replicate l.length z29)) l.length (4 * (N - l.length) + 6) (l.map cvCond) ?_ ?_ k (by omega))
    · intro k i hk hi
      obtain ⟨k, rfl⟩ : ∃ m, k = m + 1 := ⟨k - 1, by omega⟩
      have hlen : (put (fun i => cvCond (l.getD i z24)) (List.replicate l.length z29) i).length = l.length := by rw [put_length _ _ _ (by simp; omega), List.length_replicate]
      have hlt := nodesA_lt l _ (getD_mem l i z24 hi)
      rw [laws_toCondS.l0, if_pos (by omega), if_pos (by omega), rdCA, laws_toCond.f, ih (N - l.length) (by omega) _ k (by omega) (by omega) (by omega), Option.bind_some, Option.bind_some, if_pos (by omega), wrap_succ hi (by omega), Int.toNat_natCast]
      rw [← cvCond_eq, put_set (fun i => cvCond (l.getD i z24)) _ i (by simp; omega)]
    · intro k _
      simp only [laws_toCondS.l0]
      rw [if_neg (by omega), put_all _ _ (by simp), map_range_getD l z24 cvCond]
theorem toCond_of (a b c : Int) (l : List S24) (k : Nat) (h : nodesAS l ≤ 1048576) (hk : 4 * nodesAS l + 5 < k) : laws_toCond.f k a b c l = some (a, b, c, cvCondS l) := by
  obtain ⟨k, rfl⟩ : ∃ m, k = m + 1 := ⟨k - 1, by omega⟩
  simp only [laws_toCond.f]
  rw [toCondS_of (nodesAS l) l k (Nat.le_refl _) h (by omega), Option.bind_some]
/-! ### A tree is the same as itself -/
theorem eqCondS_of (N : Nat) : ∀ (l : List S29) (k : Nat), nodesBS l ≤ N → N ≤ 1048576 → 4 * N + 4 < k → laws_eqCondS.f k l l = some true := by
  induction N using Nat.strongRecOn with
  | _ N ih =>
    intro l k hN hN2 hk
    obtain ⟨k, rfl⟩ : ∃ m, k = m + 1 := ⟨k - 1, by omega⟩
    have hb := nodesBS_below l
    rw [laws_eqCondS.f, if_pos rfl]
    rcases Nat.eq_zero_or_pos l.length with hz | hz
    · obtain rfl : l = [] := List.eq_nil_of_length_eq_zero hz
      obtain ⟨k, rfl⟩ : ∃ m, k = m + 1 := ⟨k - 1, by omega⟩
      simp [laws_eqCondS.l0]
    refine (run (fun k (_ : Unit) i => laws_eqCondS.l0 k l l i) (fun _ => ()) l.length (4 * (N - l.length) + 6) true ?_ ?_ k (by omega))
    · intro k i hk hi
      obtain ⟨k, rfl⟩ : ∃ m, k = m + 1 := ⟨k - 1, by omega⟩
      have hlt := nodesB_lt l _ (getD_mem l i z29 hi)
      rw [laws_eqCondS.l0, if_pos (by omega), if_pos (by omega), if_pos (by omega), rdCB, laws_eqCond.f, if_pos rfl, if_pos rfl, if_pos rfl, ih (N - l.length) (by omega) _ k (by omega) (by omega) (by omega), Option.bind_some, if_pos rfl, Option.bind_some, if_pos rfl, wrap_succ hi (by omega)]
    · intro k _
      simp only [laws_eqCondS.l0]
      rw [if_neg (by omega)]
theorem eqCond_of (a b c : Int) (l : List S29) (k : Nat) (h : nodesBS l ≤ 1048576) (hk : 4 * nodesBS l + 5 < k) : laws_eqCond.f k a b c l a b c l = some true := by
  obtain ⟨k, rfl⟩ : ∃ m, k = m + 1 := ⟨k - 1, by omega⟩
  simp only [laws_eqCond.f, if_true]
  rw [eqCondS_of (nodesBS l) l k (Nat.le_refl _) h (by omega), Option.bind_some, if_pos rfl]
open Classical in
noncomputable def sameC (x y : S29) : Bool := decide (x = y)
open Classical in
noncomputable def sameCS (l m : List S29) : Bool := decide (l = m)
open Classical in
theorem sameC_iff (x y : S29) : sameC x y = true ↔ x = y := by unfold sameC; exact decide_eq_true_iff
open Classical in
theorem sameCS_iff (l m : List S29) : sameCS l m = true ↔ l = m := by unfold sameCS; exact decide_eq_true_iff
theorem etaB (x : S29) : (⟨x.f0, x.f1, x.f2, x.f3⟩ : S29) = x := by cases x; rfl
theorem sameCS_all (l m : List S29) (h : l.length = m.length) : (if (List.range l.length).all (fun i => sameC (l.getD i z29) (m.getD i z29)) = true then true else false) = sameCS l m := by
  by_cases g : l = m
  · subst g
    rw [(sameCS_iff l l).2 rfl, if_pos]
    rw [List.all_eq_true]
    exact fun i _ => (sameC_iff _ _).2 rfl
  · rw [Bool.eq_false_iff.2 (fun e => g ((sameCS_iff l m).1 e)), if_neg]
    intro e
    rw [List.all_eq_true] at e
    refine g (List.ext_getElem h fun i h1 h2 => ?_)
    have := (sameC_iff _ _).1 (e i (List.mem_range.2 h1))
    rwa [getD_get l i _ h1, getD_get m i _ h2] at this
theorem sameC_of (a b c : Int) (l m : List S29) : sameC ⟨a, b, c, l⟩ ⟨a, b, c, m⟩ = sameCS l m := by
  by_cases g : l = m
  · subst g; rw [(sameCS_iff l l).2 rfl, (sameC_iff _ _).2 rfl]
  · rw [Bool.eq_false_iff.2 (fun e => g ((sameCS_iff l m).1 e)), Bool.eq_false_iff]
    intro e
    have := (sameC_iff _ _).1 e
    cases this
    exact g rfl
theorem sameC_no (x y : S29) (h : x ≠ y) : sameC x y = false := Bool.eq_false_iff.2 (fun e => h ((sameC_iff x y).1 e))
theorem equal1 (N : Nat) : ∀ (a b c : Int) (l : List S29) (a' b' c' : Int) (m : List S29) (k : Nat), nodesBS l ≤ N → N ≤ 1048576 → 4 * N + 8 < k → spec_EqualConds.f k a b c l a' b' c' m = some (sameC ⟨a, b, c, l⟩ ⟨a', b', c', m⟩) := by
  induction N using Nat.strongRecOn with
  | _ N ih =>
    intro a b c l a' b' c' m k hN hN2 hk
    obtain ⟨k, rfl⟩ : ∃ m, k = m + 1 + 1 := ⟨k - 2, by omega⟩
    have hb := nodesBS_below l
    rw [spec_EqualConds.f]
    have hf : spec_EqualConds.j0 (k + 1) true a b c l a' b' c' m = some false := by rw [spec_EqualConds.j0, if_pos rfl]
    by_cases ha : a = a'
    · by_cases hb' : b = b'
      · by_cases hc : c = c'
        · subst ha hb' hc
          rw [if_pos rfl, if_pos rfl, if_pos rfl, sameC_of, spec_EqualConds.j0]
          by_cases hl : l.length = m.length
          · rw [if_neg (by simp; omega)]
            rcases Nat.eq_zero_or_pos l.length with hz | hz
            · obtain rfl : l = [] := List.eq_nil_of_length_eq_zero hz
              obtain rfl : m = [] := List.eq_nil_of_length_eq_zero (by simpa using hl.symm)
              obtain ⟨k, rfl⟩ : ∃ m, k = m + 1 := ⟨k - 1, by omega⟩
              rw [spec_EqualConds.l0, if_neg (by simp), (sameCS_iff _ _).2 rfl]
            rw [allLoop (fun k i => spec_EqualConds.l0 k i a b c l a b c m) l.length (4 * (N - l.length) + 9) (fun i => sameC (l.getD i z29) (m.getD i z29)) false true ?_ ?_ ?_ k (by omega), sameCS_all l m hl]
            · intro k i hk hi hp
              have hlt := nodesB_lt l _ (getD_mem l i z29 hi)
              rw [spec_EqualConds.l0, if_pos (by omega), if_pos (by omega), if_pos (by omega), rdCB, rdCB, ih (N - l.length) (by omega) _ _ _ _ _ _ _ _ k (by omega) (by omega) (by omega), Option.bind_some, etaB, etaB, if_pos hp, wrap_succ hi (by omega)]
            · intro k i hk hi hp
              have hlt := nodesB_lt l _ (getD_mem l i z29 hi)
              rw [spec_EqualConds.l0, if_pos (by omega), if_pos (by omega), if_pos (by omega), rdCB, rdCB, ih (N - l.length) (by omega) _ _ _ _ _ _ _ _ k (by omega) (by omega) (by omega), Option.bind_some, etaB, etaB, hp, if_neg (by simp)]
            · intro k _
              rw [spec_EqualConds.l0, if_neg (by omega)]
          · have hs : sameCS l m = false := Bool.eq_false_iff.2 (fun e => hl (by rw [(sameCS_iff l m).1 e]))
            rw [if_pos (by simp; omega), hs]
        · rw [if_pos ha, if_pos hb', if_neg hc, hf, sameC_no _ _ (fun e => hc (by cases e; rfl))]
      · rw [if_pos ha, if_neg hb', hf, sameC_no _ _ (fun e => hb' (by cases e; rfl))]
    · rw [if_neg ha, hf, sameC_no _ _ (fun e => ha (by cases e; rfl))]
theorem equal2C (N : Nat) : ∀ (a b c : Int) (l : List S29) (a' b' c' : Int) (m : List S29) (k : Nat), nodesBS l ≤ N → N ≤ 1048576 → 4 * N + 8 < k → impl_EqualConds.f k a b c l a' b' c' m = some (sameC ⟨a, b, c, l⟩ ⟨a', b', c', m⟩) := by
  induction N using Nat.strongRecOn with
  | _ N ih =>
    intro a b c l a' b' c' m k hN hN2 hk
    obtain ⟨k, rfl⟩ : ∃ m, k = m + 1 + 1 := ⟨k - 2, by omega⟩
    have hb := nodesBS_below l
    rw [impl_EqualConds.f]
    by_cases ha : a = a'
    · by_cases hb' : b = b'
      · by_cases hc : c = c'
        · subst ha hb' hc
          rw [if_pos rfl, if_pos rfl, if_pos rfl, sameC_of, impl_Cond.f]
          by_cases hl : l.length = m.length
          · rw [if_pos (by omega)]
            rcases Nat.eq_zero_or_pos l.length with hz | hz
            · obtain rfl : l = [] := List.eq_nil_of_length_eq_zero hz
              obtain rfl : m = [] := List.eq_nil_of_length_eq_zero (by simpa using hl.symm)
              obtain ⟨k, rfl⟩ : ∃ m, k = m + 1 := ⟨k - 1, by omega⟩
              rw [impl_Cond.l0, if_neg (by simp), (sameCS_iff _ _).2 rfl]
              rfl
            rw [allLoop (fun k i => impl_Cond.l0 k m l (l.length : Int) i) l.length (4 * (N - l.length) + 9) (fun i => sameC (l.getD i z29) (m.getD i z29)) false true ?_ ?_ ?_ k (by omega), sameCS_all l m hl]
            · rfl
            · intro k i hk hi hp
              have hlt := nodesB_lt l _ (getD_mem l i z29 hi)
              rw [impl_Cond.l0, if_pos (by omega), if_pos (by omega), if_pos (by omega), if_pos (by omega), rdCB, rdCB, ih (N - l.length) (by omega) _ _ _ _ _ _ _ _ k (by omega) (by omega) (by omega), Option.bind_some, etaB, etaB, if_pos hp, wrap_succ hi (by omega)]
            · intro k i hk hi hp
              have hlt := nodesB_lt l _ (getD_mem l i z29 hi)
              rw [impl_Cond.l0, if_pos (by omega), if_pos (by omega), if_pos (by omega), if_pos (by omega), rdCB, rdCB, ih (N - l.length) (by omega) _ _ _ _ _ _ _ _ k (by omega) (by omega) (by omega), Option.bind_some, etaB, etaB, hp, if_neg (by simp)]
            · intro k _
              rw [impl_Cond.l0, if_neg (by omega)]
          · have hs : sameCS l m = false := Bool.eq_false_iff.2 (fun e => hl (by rw [(sameCS_iff l m).1 e]))
            rw [if_neg (by omega), hs]
            rfl
        · rw [if_pos ha, if_pos hb', if_neg hc, sameC_no _ _ (fun e => hc (by cases e; rfl))]
      · rw [if_pos ha, if_neg hb', sameC_no _ _ (fun e => hb' (by cases e; rfl))]
    · rw [if_neg ha, sameC_no _ _ (fun e => ha (by cases e; rfl))]
theorem FnExactEqualConds : laws_FnExactEqualConds.Pure := by
  intro a b c l a' b' c' m _ _ _ hw _ _ _ hv
  suffices h : ∀ k, 4 * nodesAS l + 4 * nodesAS m + 12 < k → laws_FnExactEqualConds.f k a b c l a' b' c' m = some true from ⟨4 * nodesAS l + 4 * nodesAS m + 13, h _ (by omega)⟩
  intro k hk
  unfold laws_FnExactEqualConds.f
  rw [szCond_of a b c l 1048576 k hw.2 hw.1 (by omega) (by omega) (by omega), Option.bind_some]
  by_cases h : (nodesAS l : Int) ≤ 1048576
  · have hn : nodesBS (cvCondS l) = nodesAS l := cv_nodes _ l (Nat.le_refl _)
    rw [if_pos h, if_neg (by omega), szCond_of a' b' c' m _ k hv.2 hv.1 (by omega) (by omega) (by omega), Option.bind_some]
    by_cases g : (nodesAS m : Int) ≤ 1048576 - (nodesAS l : Int)
    · have gn : nodesBS (cvCondS m) = nodesAS m := cv_nodes _ m (Nat.le_refl _)
      rw [if_pos g, if_neg (by omega)]
      simp only [toCond_of a b c l k (by omega) (by omega), toCond_of a' b' c' m k (by omega) (by omega), equal1 (nodesBS (cvCondS l)) a b c (cvCondS l) a' b' c' (cvCondS m) k (Nat.le_refl _) (by omega) (by omega), equal2C (nodesBS (cvCondS l)) a b c (cvCondS l) a' b' c' (cvCondS m) k (Nat.le_refl _) (by omega) (by omega), eqCond_of a b c (cvCondS l) k (by omega) (by omega), eqCond_of a' b' c' (cvCondS m) k (by omega) (by omega), Option.bind_some, bne_self_eq_false, if_true]
      rfl
    · rw [if_neg g, if_pos (by omega)]
  · rw [if_neg h, if_pos (by omega)]
end Go.Proofs.Ytlcmjdkbeckdnaa.Pure
