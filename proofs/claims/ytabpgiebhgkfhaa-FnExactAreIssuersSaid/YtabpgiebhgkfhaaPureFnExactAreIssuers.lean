/- FnExactAreIssuers: the program's AreIssuers answers what the reference's answers, for all lists of issuers. Conditions: none. -/
import Derived.Test.YtabpgiebhgkfhaaLib
import Derived.Test.YtabpgiebhgkfhaaXFnExactAreIssuersx6
namespace Go.Proofs.Ytabpgiebhgkfhaa.Pure
open Go.RowKit Go.Proofs.Ytabpgiebhgkfhaa.XFnExactAreIssuers Go.Proofs.YtabpgiebhgkfhaaW.PrintWords
set_option linter.unusedVariables false
set_option linter.unusedSimpArgs false
open Go.Proofs.YtabpgiebhgkfhaaLib
theorem in1 (x y z : Int) : spec_l1In.f x y z = some (decide (y ≤ x ∧ x ≤ z)) := by
  unfold spec_l1In.f
  by_cases h : x ≥ y
  · rw [if_pos h]; simp [show y ≤ x from h]
  · rw [if_neg h]; simp; omega
theorem in2 (x y z : Int) : impl_InRange.f x y z = some (decide (y ≤ x ∧ x ≤ z)) := by
  unfold impl_InRange.f
  by_cases h : y ≤ x
  · rw [if_pos h]; simp [h]
  · rw [if_neg h]; simp; omega
def ascAt (l : List Int) (lo hi : Int) (i : Nat) : Bool := decide (lo ≤ l.getD i 0 ∧ l.getD i 0 ≤ hi) && (decide (i = 0) || decide (l.getD (i - 1) 0 < l.getD i 0))
def asc (l : List Int) (lo hi : Int) : Bool := (List.range l.length).all (ascAt l lo hi)
theorem asc2 (l : List Int) (lo hi : Int) (hl : l.length ≤ 1099511627776) (k : Nat) (hk : l.length < k) : impl_isAscending.f k l lo hi = some (asc l lo hi) := by
  unfold impl_isAscending.f
  rw [allLoop (fun k i => impl_isAscending.l0 k l lo hi l (l.length : Int) i) l.length 0 (ascAt l lo hi) false true ?_ ?_ ?_ k (by omega)]
  · unfold asc
    cases (List.range l.length).all (ascAt l lo hi) <;> rfl
  · intro k i _ hi' hp
    simp only [ascAt, Bool.and_eq_true, Bool.or_eq_true, decide_eq_true_eq] at hp
    simp only [impl_isAscending.l0, in2, rd_nat, Option.bind_some, decide_eq_true_eq]
    rw [if_pos (by omega), if_pos (by omega), if_pos (by omega), if_pos hp.1, wrap_succ hi' hl]
    rcases Nat.eq_zero_or_pos i with h0 | h0
    · rw [if_neg (by omega)]
    · rw [if_pos (by omega), wrap_pred h0 hi' hl, rd_nat, if_pos (by omega), if_pos (by omega), if_neg (by omega)]
  · intro k i _ hi' hp
    simp only [impl_isAscending.l0, in2, rd_nat, Option.bind_some, decide_eq_true_eq]
    rw [if_pos (by omega), if_pos (by omega), if_pos (by omega)]
    by_cases h1 : lo ≤ l.getD i 0 ∧ l.getD i 0 ≤ hi
    · rw [if_pos h1]
      unfold ascAt at hp
      rw [decide_eq_true h1] at hp
      simp only [Bool.true_and, Bool.or_eq_false_iff, decide_eq_false_iff_not] at hp
      rw [if_pos (by omega), wrap_pred (by omega) hi' hl, rd_nat, if_pos (by omega), if_pos (by omega), if_pos (by omega)]
    · rw [if_neg h1]
  · intro k _
    simp only [impl_isAscending.l0]
    rw [if_neg (by omega)]
def isIssuer (a : Int) (l : List Int) (c : Int) : Bool := decide (0 ≤ a ∧ a ≤ 9) && (asc l 1 4 && decide (1 ≤ c ∧ c ≤ 2147483646))
theorem issuer2 (a : Int) (l : List Int) (c : Int) (hl : l.length ≤ 1099511627776) (k : Nat) (hk : l.length < k) : impl_IsIssuer.f k a l c = some (isIssuer a l c) := by
  simp only [impl_IsIssuer.f, impl_IsValidKey.f, in2, asc2 l 1 4 hl k hk, Option.bind_some, ite_and]
  rfl
theorem issuer1 (a : Int) (l : List Int) (c : Int) (hl : l.length ≤ 1099511627776) (k : Nat) (hk : l.length < k) : spec_IsIssuer.f k a l c = some (isIssuer a l c) := by
  unfold spec_IsIssuer.f
  rw [allLoop (fun k i => spec_IsIssuer.l0 k i a l c) l.length 0 (ascAt l 1 4) false (decide (0 ≤ a ∧ a ≤ 9) && decide (1 ≤ c ∧ c ≤ 2147483646)) ?_ ?_ ?_ k (by omega)]
  · unfold isIssuer asc
    cases (List.range l.length).all (ascAt l 1 4) <;> simp
  · intro k i _ hi' hp
    simp only [ascAt, Bool.and_eq_true, Bool.or_eq_true, decide_eq_true_eq] at hp
    simp only [spec_IsIssuer.l0, in1, rd_nat, Option.bind_some, decide_eq_true_eq]
    rw [if_pos (by omega), if_pos (by omega), if_pos hp.1, wrap_succ hi' hl]
    rcases Nat.eq_zero_or_pos i with h0 | h0
    · rw [if_neg (by omega)]
    · rw [if_pos (by omega), wrap_pred h0 hi' hl, rd_nat, if_pos (by omega), if_pos (by omega), if_neg (by omega)]
  · intro k i _ hi' hp
    simp only [spec_IsIssuer.l0, in1, rd_nat, Option.bind_some, decide_eq_true_eq]
    rw [if_pos (by omega), if_pos (by omega)]
    by_cases h1 : 1 ≤ l.getD i 0 ∧ l.getD i 0 ≤ 4
    · rw [if_pos h1]
      unfold ascAt at hp
      rw [decide_eq_true h1] at hp
      simp only [Bool.true_and, Bool.or_eq_false_iff, decide_eq_false_iff_not] at hp
      rw [if_pos (by omega), wrap_pred (by omega) hi' hl, rd_nat, if_pos (by omega), if_pos (by omega), if_pos (by omega)]
    · rw [if_neg h1]
  · intro k _
    simp only [spec_IsIssuer.l0, spec_IsValidKey.f, in1, Option.bind_some]
    rw [if_neg (by omega), ite_and]
theorem szInt (l : List Int) (a : Int) (h0 : 0 ≤ a) (h1 : a ≤ 1048576) (hl : l.length ≤ maxLen) : laws_szIntS.f l a = some (if (l.length : Int) ≤ a then a - (l.length : Int) else -1) := by
  unfold maxLen at hl
  unfold laws_szIntS.f
  rw [wrap_in (by omega) (by omega)]
  by_cases h : (l.length : Int) ≤ a
  · rw [if_pos h, if_neg (by omega)]
  · rw [if_neg h, if_pos (by omega)]
theorem toIntS (l : List Int) (hl : l.length ≤ 1099511627776) (k : Nat) (hk : l.length < k) : laws_toIntS.f k l = some l := by
  unfold laws_toIntS.f
  rw [if_pos (by omega), if_pos (by omega), Int.toNat_natCast]
  refine (run (fun k s i => laws_toIntS.l0 k l s i) (put (fun i => l.getD i 0) (List.replicate l.length 0)) l.length 0 l ?_ ?_ k (by omega))
  · intro k i _ hi
    have hlen : (put (fun i => l.getD i 0) (List.replicate l.length 0) i).length = l.length := by rw [put_length _ _ _ (by simp; omega), List.length_replicate]
    simp only [laws_toIntS.l0]
    rw [if_pos (by omega), if_pos (by omega), if_pos (by omega), wrap_succ hi hl, rd_nat, Int.toNat_natCast, put_set (fun i => l.getD i 0) _ i (by simp; omega)]
  · intro k _
    simp only [laws_toIntS.l0]
    rw [if_neg (by omega), put_all _ _ (by simp), map_range_getD']
theorem eqIntS_self (l : List Int) (hl : l.length ≤ 1099511627776) (k : Nat) (hk : l.length < k) : laws_eqIntS.f k l l = some true := by
  unfold laws_eqIntS.f
  rw [if_pos rfl]
  refine run (fun k (_ : Unit) i => laws_eqIntS.l0 k l l i) (fun _ => ()) l.length 0 true ?_ ?_ k (by omega)
  · intro k i _ hi
    simp only [laws_eqIntS.l0]
    rw [if_pos (by omega), if_pos (by omega), if_pos (by omega), if_pos trivial, wrap_succ hi hl]
  · intro k _
    simp only [laws_eqIntS.l0]
    rw [if_neg (by omega)]
theorem toIssuer (a : Int) (l : List Int) (c : Int) (hl : l.length ≤ 1099511627776) (k : Nat) (hk : l.length < k) : laws_toIssuer.f k a l c = some (a, l, c) := by
  simp only [laws_toIssuer.f, toIntS l hl k hk, Option.bind_some]
theorem eqIssuer_self (a : Int) (l : List Int) (c : Int) (hl : l.length ≤ 1099511627776) (k : Nat) (hk : l.length < k) : laws_eqIssuer.f k a l c a l c = some true := by
  simp only [laws_eqIssuer.f, eqIntS_self l hl k hk, Option.bind_some, if_true]
theorem szIssuer (a : Int) (l : List Int) (c n : Int) (h0 : 0 ≤ n) (h1 : n ≤ 1048576) (hl : l.length ≤ maxLen) : laws_szIssuer.f a l c n = some (if (l.length : Int) ≤ n then n - (l.length : Int) else -1) := by
  simp only [laws_szIssuer.f, szInt l n h0 h1 hl, Option.bind_some]
  by_cases h : (l.length : Int) ≤ n
  · rw [if_pos h, if_neg (by omega)]
  · rw [if_neg h, if_pos (by omega)]
theorem rdIa (l : List S45) (i : Nat) : rd_T45 l (i : Int) = l.getD i z45 := by
  unfold rd_T45
  rw [Int.toNat_natCast]
theorem rdIb (l : List S48) (i : Nat) : rd_T48 l (i : Int) = l.getD i z48 := by
  unfold rd_T48
  rw [Int.toNat_natCast]
def cvI (x : S45) : S48 := ⟨x.f0, x.f1, x.f2⟩
/-- How many whole numbers the issuers hold. -/
def heldI (l : List S45) : Nat := (l.map fun x => x.f1.length).sum
theorem szIssuerS (l : List S45) (hl : l.length ≤ maxLen) (hw : ∀ x ∈ l, x.f1.length ≤ maxLen) (a : Int) (ha0 : 0 ≤ a) (ha : a ≤ 1048576) (k : Nat) (hk : 1048580 < k) : ∃ r, laws_szIssuerS.f k l a = some r ∧ (r < 0 ∨ (r ≤ a ∧ (l.length : Int) ≤ a ∧ (heldI l : Int) ≤ a)) := by
  unfold maxLen at hl
  unfold laws_szIssuerS.f
  rw [wrap_in (by omega) (by omega)]
  by_cases h : (l.length : Int) ≤ a
  · rw [if_neg (by omega), szLoop (fun k a i => laws_szIssuerS.l0 k l a i) l z45 (fun x => x.f1.length) 0 1048576 ?_ ?_ k _ (by omega) (by omega) (by omega)]
    · refine ⟨_, rfl, ?_⟩
      unfold heldI
      split
      · right; omega
      · left; omega
    · intro k i a _ hi h0 hM
      have hm := hw _ (getD_mem l i z45 hi)
      simp only [laws_szIssuerS.l0, rdIa]
      rw [if_pos (by omega), if_pos (by omega), szIssuer _ _ _ a h0 hM hm, Option.bind_some, wrap_succ hi (by omega)]
      by_cases h : (((l.getD i z45).f1.length : Nat) : Int) ≤ a
      · simp only [if_pos h]
        rw [if_neg (by omega)]
      · simp only [if_neg h]
        rfl
    · intro k a _
      simp only [laws_szIssuerS.l0]
      rw [if_neg (by omega)]
  · rw [if_pos (by omega)]
    exact ⟨_, rfl, .inl (by omega)⟩
theorem toIssuerS (l : List S45) (hl : l.length ≤ 1048576) (hw : ∀ x ∈ l, x.f1.length ≤ 1048576) (k : Nat) (hk : l.length + 1048578 < k) : laws_toIssuerS.f k l = some (l.map cvI) := by
  unfold laws_toIssuerS.f
  rw [if_pos (by omega), if_pos (by omega), Int.toNat_natCast]
  refine (run (fun k s i => laws_toIssuerS.l0 k l s i) (put (fun i => (⟨(l.getD i z45).f0, (l.getD i z45).f1, (l.getD i z45).f2⟩ : S48)) (List.replicate l.length z48)) l.length 1048578 (l.map cvI) ?_ ?_ k (by omega))
  · intro k i hB hi
    have hlen : (put (fun i => (⟨(l.getD i z45).f0, (l.getD i z45).f1, (l.getD i z45).f2⟩ : S48)) (List.replicate l.length z48) i).length = l.length := by rw [put_length _ _ _ (by simp; omega), List.length_replicate]
    have hm := hw _ (getD_mem l i z45 hi)
    simp only [laws_toIssuerS.l0, rdIa]
    rw [if_pos (by omega), if_pos (by omega), toIssuer _ _ _ (by omega) k (by omega)]
    simp only [Option.bind_some]
    rw [if_pos (by omega), wrap_succ hi (by omega), Int.toNat_natCast, put_set (fun i => (⟨(l.getD i z45).f0, (l.getD i z45).f1, (l.getD i z45).f2⟩ : S48)) _ i (by simp; omega)]
  · intro k _
    simp only [laws_toIssuerS.l0]
    rw [if_neg (by omega), put_all _ _ (by simp), map_range_getD l z45 (fun x => (⟨x.f0, x.f1, x.f2⟩ : S48))]
    rfl
theorem eqIssuerS_self (l : List S48) (hl : l.length ≤ 1048576) (hw : ∀ x ∈ l, x.f1.length ≤ 1048576) (k : Nat) (hk : l.length + 1048578 < k) : laws_eqIssuerS.f k l l = some true := by
  unfold laws_eqIssuerS.f
  rw [if_pos rfl]
  refine run (fun k (_ : Unit) i => laws_eqIssuerS.l0 k l l i) (fun _ => ()) l.length 1048578 true ?_ ?_ k (by omega)
  · intro k i hB hi
    have hm := hw _ (getD_mem l i z48 hi)
    simp only [laws_eqIssuerS.l0, rdIb]
    rw [if_pos (by omega), if_pos (by omega), if_pos (by omega), eqIssuer_self _ _ _ (by omega) k (by omega), Option.bind_some, if_pos rfl, wrap_succ hi (by omega)]
  · intro k _
    simp only [laws_eqIssuerS.l0]
    rw [if_neg (by omega)]
theorem cvI_held (l : List S45) (h : (heldI l : Int) ≤ 1048576) : (∀ x ∈ l, x.f1.length ≤ 1048576) ∧ ∀ x ∈ l.map cvI, x.f1.length ≤ 1048576 := by
  have h1 : ∀ x ∈ l, x.f1.length ≤ 1048576 := fun x hx => by
    have := le_sum (fun x : S45 => x.f1.length) l x hx
    unfold heldI at h
    omega
  refine ⟨h1, fun x hx => ?_⟩
  obtain ⟨y, hy, rfl⟩ := List.mem_map.1 hx
  exact h1 y hy
def issAt (l : List S48) (i : Nat) : Bool := isIssuer (l.getD i z48).f0 (l.getD i z48).f1 (l.getD i z48).f2 && (decide (i = 0) || decide ((l.getD (i - 1) z48).f0 < (l.getD i z48).f0))
def areIssuers (l : List S48) : Bool := if (List.range l.length).all (issAt l) = true then decide ((l.length : Int) ≤ 4) else false
theorem areIssuers1 (l : List S48) (hl : l.length ≤ 1048576) (hw : ∀ x ∈ l, x.f1.length ≤ 1048576) (k : Nat) (hk : l.length + 1048578 < k) : spec_AreIssuers.f k l = some (areIssuers l) := by
  unfold spec_AreIssuers.f
  refine allLoop (fun k i => spec_AreIssuers.l0 k l i) l.length 1048578 (issAt l) false (decide ((l.length : Int) ≤ 4)) ?_ ?_ ?_ k (by omega)
  · intro k i hB hi hp
    have hm := hw _ (getD_mem l i z48 hi)
    simp only [issAt, Bool.and_eq_true, Bool.or_eq_true, decide_eq_true_eq] at hp
    simp only [spec_AreIssuers.l0, rdIb]
    rw [if_pos (by omega), if_pos (by omega), issuer1 _ _ _ (by omega) k (by omega), Option.bind_some, if_pos hp.1, wrap_succ hi (by omega)]
    rcases Nat.eq_zero_or_pos i with h0 | h0
    · rw [if_neg (by omega)]
    · rw [if_pos (by omega), wrap_pred h0 hi (by omega), rdIb, if_pos (by omega), if_pos (by omega), if_neg (by omega)]
  · intro k i hB hi hp
    have hm := hw _ (getD_mem l i z48 hi)
    simp only [spec_AreIssuers.l0, rdIb]
    rw [if_pos (by omega), if_pos (by omega), issuer1 _ _ _ (by omega) k (by omega), Option.bind_some]
    unfold issAt at hp
    cases hb : isIssuer (l.getD i z48).f0 (l.getD i z48).f1 (l.getD i z48).f2 with
    | false => rfl
    | true =>
      rw [hb] at hp
      simp only [Bool.true_and, Bool.or_eq_false_iff, decide_eq_false_iff_not] at hp
      rw [if_pos rfl, if_pos (by omega), wrap_pred (by omega) hi (by omega), rdIb, if_pos (by omega), if_pos (by omega), if_pos (by omega)]
  · intro k _
    simp only [spec_AreIssuers.l0]
    rw [if_neg (by omega)]
theorem areIssuers2 (l : List S48) (hl : l.length ≤ 1048576) (hw : ∀ x ∈ l, x.f1.length ≤ 1048576) (k : Nat) (hk : l.length + 1048578 < k) : impl_AreIssuers.f k l = some (areIssuers l) := by
  unfold impl_AreIssuers.f
  refine allLoop (fun k i => impl_AreIssuers.l0 k l l (l.length : Int) i) l.length 1048578 (issAt l) false (decide ((l.length : Int) ≤ 4)) ?_ ?_ ?_ k (by omega)
  · intro k i hB hi hp
    have hm := hw _ (getD_mem l i z48 hi)
    simp only [issAt, Bool.and_eq_true, Bool.or_eq_true, decide_eq_true_eq] at hp
    simp only [impl_AreIssuers.l0, rdIb]
    rw [if_pos (by omega), if_pos (by omega), if_pos (by omega), issuer2 _ _ _ (by omega) k (by omega), Option.bind_some, if_pos hp.1, wrap_succ hi (by omega)]
    rcases Nat.eq_zero_or_pos i with h0 | h0
    · rw [if_neg (by omega)]
    · rw [if_pos (by omega), wrap_pred h0 hi (by omega), rdIb, if_pos (by omega), if_pos (by omega), if_neg (by omega)]
  · intro k i hB hi hp
    have hm := hw _ (getD_mem l i z48 hi)
    simp only [impl_AreIssuers.l0, rdIb]
    rw [if_pos (by omega), if_pos (by omega), if_pos (by omega), issuer2 _ _ _ (by omega) k (by omega), Option.bind_some]
    unfold issAt at hp
    cases hb : isIssuer (l.getD i z48).f0 (l.getD i z48).f1 (l.getD i z48).f2 with
    | false => rfl
    | true =>
      rw [hb] at hp
      simp only [Bool.true_and, Bool.or_eq_false_iff, decide_eq_false_iff_not] at hp
      rw [if_pos rfl, if_pos (by omega), wrap_pred (by omega) hi (by omega), rdIb, if_pos (by omega), if_pos (by omega), if_pos (by omega)]
  · intro k _
    simp only [impl_AreIssuers.l0]
    rw [if_neg (by omega)]
theorem FnExactAreIssuers : laws_FnExactAreIssuers.Pure := by
  intro l hw
  suffices h : ∀ k, 4194304 < k → laws_FnExactAreIssuers.f k l = some true from ⟨4194305, h _ (by omega)⟩
  intro k hk
  unfold laws_FnExactAreIssuers.f
  obtain ⟨r, hr, hc⟩ := szIssuerS l hw.1 (fun x hx => (hw.2 x hx).2.1.1) 1048576 (by omega) (by omega) k (by omega)
  rw [hr, Option.bind_some]
  rcases hc with hc | ⟨h1, h2, h3⟩
  · rw [if_pos hc]
  by_cases hneg : r < 0
  · rw [if_pos hneg]
  obtain ⟨g1, g2⟩ := cvI_held l h3
  have hl : (l.map cvI).length = l.length := List.length_map ..
  rw [if_neg hneg]
  simp only [toIssuerS l (by omega) g1 k (by omega), areIssuers1 (l.map cvI) (by omega) g2 k (by omega), areIssuers2 (l.map cvI) (by omega) g2 k (by omega), eqIssuerS_self (l.map cvI) (by omega) g2 k (by omega), Option.bind_some, bne_self_eq_false]
  rfl
end Go.Proofs.Ytabpgiebhgkfhaa.Pure
