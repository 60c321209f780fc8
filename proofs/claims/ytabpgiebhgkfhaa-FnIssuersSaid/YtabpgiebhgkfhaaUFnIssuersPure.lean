/- FnIssuers: what is said of issuers holds for all bytes: only what an issuer may state is believed, and nothing that was changed. Conditions: none. -/
import Derived.Test.YtabpgiebhgkfhaaUFnIssuersLib
import Derived.Test.YtabpgiebhgkfhaaUFnIssuersx23
namespace Go.Proofs.Ytabpgiebhgkfhaa.Pure
open Go.RowKit Go.Proofs.Ytabpgiebhgkfhaa.XFnIssuers Go.Proofs.YtabpgiebhgkfhaaW.PrintWords
set_option linter.unusedVariables false
set_option linter.unusedSimpArgs false
open Go.Proofs.YtabpgiebhgkfhaaLib
theorem in1 (x y z : Int) : spec_l1In.f x y z = some (decide (y ≤ x ∧ x ≤ z)) := by
  unfold spec_l1In.f
  by_cases h : x ≥ y
  · rw [if_pos h]; simp [show y ≤ x from h]
  · rw [if_neg h]; simp; omega
theorem in2 (x y z : Int) : impl_InRange.f x y z = some (decide (y ≤ x ∧ x ≤ z)) := by
  unfold impl_InRange.f
  by_cases h : y ≤ x
  · rw [if_pos h]; simp [h]
  · rw [if_neg h]; simp; omega
def md (v : Int) : Int := Int.tmod (wrap64 (Int.tmod v 2147483647 + 2147483647)) 2147483647
def hstep (d v : Int) : Int := Int.tmod (wrap64 ((wrap64 ((wrap64 (d * 1000003)) + md v)) + 13)) 2147483647
def hash (l : List Int) : Int := l.foldl hstep 11
theorem mod1 (v : Int) : spec_Mod.f v 2147483647 = some (md v) := by
  simp [spec_Mod.f, in1, md]
theorem mod2 (v : Int) : impl_Mod.f v 2147483647 = some (md v) := by
  simp [impl_Mod.f, in2, md]
theorem hash1 (l : List Int) (hl : l.length ≤ 1099511627776) (k : Nat) (hk : l.length < k) : spec_Hash.f k l = some (hash l) := by
  unfold spec_Hash.f
  refine run (fun k s i => spec_Hash.l0 k l s i) (fun i => (l.take i).foldl hstep 11) l.length 0 (hash l) ?_ ?_ k (by omega)
  · intro k i _ hi
    simp only [spec_Hash.l0]
    rw [if_pos (by omega), if_pos (by omega), mod1, Option.bind_some, wrap_succ hi hl, rd_nat, foldl_take hstep 11 l i hi 0]
    rfl
  · intro k _
    simp only [spec_Hash.l0]
    rw [if_neg (by omega), List.take_length]
    rfl
theorem hash2 (l : List Int) (hl : l.length ≤ 1099511627776) (k : Nat) (hk : l.length < k) : impl_Hash.f k l = some (hash l) := by
  unfold impl_Hash.f
  refine run (fun k s i => impl_Hash.l0 k s l (l.length : Int) i) (fun i => (l.take i).foldl hstep 11) l.length 0 (hash l) ?_ ?_ k (by omega)
  · intro k i _ hi
    simp only [impl_Hash.l0]
    rw [if_pos (by omega), if_pos (by omega), if_pos (by omega), mod2, Option.bind_some, wrap_succ hi hl, rd_nat, foldl_take hstep 11 l i hi 0]
    rfl
  · intro k _
    simp only [impl_Hash.l0]
    rw [if_neg (by omega), List.take_length]
    rfl
theorem rdL (L : List (List Int)) (i : Nat) : rd_L1 L (i : Int) = L.getD i [] := by
  unfold rd_L1
  rw [Int.toNat_natCast]
theorem grow0 (n : Nat) (h : n ≤ 1099511627776) : slices_Grow_int_int.f [] (n : Int) = some [] := by
  unfold slices_Grow_int_int.f
  rw [if_pos ⟨rfl, by omega, by omega⟩]
theorem concat (L : List (List Int)) (hl : L.length ≤ 1048576) (ht : L.flatten.length ≤ 1099511627776) (k : Nat) (hk : 2 * L.length + 2 < k) : slices_Concat_int_int.f k L = some L.flatten := by
  unfold slices_Concat_int_int.f
  refine run (fun k s i => slices_Concat_int_int.l0 k L s L (L.length : Int) i) (fun i => ((L.take i).flatten.length : Int)) L.length (L.length + 1) L.flatten ?_ ?_ k (by omega)
  · intro k i _ hi
    have h1 := flatten_take L i hi
    have h2 := flatten_take_le L (i + 1)
    have h3 : ((L.take (i + 1)).flatten.length : Int) = ((L.take i).flatten.length : Int) + ((L.getD i []).length : Int) := by rw [h1, List.length_append]; omega
    have hw : wrap64 (((L.take i).flatten.length : Int) + ((L.getD i []).length : Int)) = ((L.take (i + 1)).flatten.length : Int) := by rw [h3]; exact wrap_in (by omega) (by omega)
    simp only [slices_Concat_int_int.l0, rdL]
    rw [if_pos (by omega), if_pos (by omega), if_pos (by omega), hw, if_neg (by omega), wrap_succ hi (by omega)]
  · intro k hk
    simp only [slices_Concat_int_int.l0]
    rw [if_neg (by omega), List.take_length, grow0 _ ht, Option.bind_some]
    refine run (fun k s i => slices_Concat_int_int.l1 k s L (L.length : Int) i) (fun i => (L.take i).flatten) L.length 0 L.flatten ?_ ?_ k (by omega)
    · intro k i _ hi
      have h1 := flatten_take L i hi
      have h2 := flatten_take_le L (i + 1)
      rw [h1, List.length_append] at h2
      simp only [slices_Concat_int_int.l1, rdL]
      rw [if_pos (by omega), if_pos (by omega), if_pos (by omega), if_pos (by omega), ← h1, wrap_succ hi (by omega)]
    · intro k _
      simp only [slices_Concat_int_int.l1]
      rw [if_neg (by omega), List.take_length]
def keyed (a : Int) (l : List Int) : Int := hash ([a] ++ l ++ [a])
theorem keyed1 (a : Int) (l : List Int) (hl : l.length ≤ 1048576) (k : Nat) (hk : l.length + 5 < k) : spec_KeyedHash.f k a l = some (keyed a l) := by
  unfold spec_KeyedHash.f
  rw [Option.bind_some, if_pos (by simp; omega), Option.bind_some, if_pos (by simp; omega), hash1 _ (by simp; omega) k (by simp; omega)]
  rfl
theorem keyed2 (a : Int) (l : List Int) (hl : l.length ≤ 1048576) (k : Nat) (hk : l.length + 20 < k) : impl_KeyedHash.f k a l = some (keyed a l) := by
  unfold impl_KeyedHash.f
  have hf : [[a], l, [a]].flatten = [a] ++ l ++ [a] := by simp
  rw [concat [[a], l, [a]] (by simp) (by rw [hf]; simp; omega) k (by simp; omega), Option.bind_some, hf, hash2 _ (by simp; omega) k (by simp; omega)]
  rfl
def ascAt (l : List Int) (lo hi : Int) (i : Nat) : Bool := decide (lo ≤ l.getD i 0 ∧ l.getD i 0 ≤ hi) && (decide (i = 0) || decide (l.getD (i - 1) 0 < l.getD i 0))
def asc (l : List Int) (lo hi : Int) : Bool := (List.range l.length).all (ascAt l lo hi)
theorem asc2 (l : List Int) (lo hi : Int) (hl : l.length ≤ 1099511627776) (k : Nat) (hk : l.length < k) : impl_isAscending.f k l lo hi = some (asc l lo hi) := by
  unfold impl_isAscending.f
  rw [allLoop (fun k i => impl_isAscending.l0 k l lo hi l (l.length : Int) i) l.length 0 (ascAt l lo hi) false true ?_ ?_ ?_ k (by omega)]
  · unfold asc
    cases (List.range l.length).all (ascAt l lo hi) <;> rfl
  · intro k i _ hi' hp
    simp only [ascAt, Bool.and_eq_true, Bool.or_eq_true, decide_eq_true_eq] at hp
    simp only [impl_isAscending.l0, in2, rd_nat, Option.bind_some, decide_eq_true_eq]
    rw [if_pos (by omega), if_pos (by omega), if_pos (by omega), if_pos hp.1, wrap_succ hi' hl]
    rcases Nat.eq_zero_or_pos i with h0 | h0
    · rw [if_neg (by omega)]
    · rw [if_pos (by omega), wrap_pred h0 hi' hl, rd_nat, if_pos (by omega), if_pos (by omega), if_neg (by omega)]
  · intro k i _ hi' hp
    simp only [impl_isAscending.l0, in2, rd_nat, Option.bind_some, decide_eq_true_eq]
    rw [if_pos (by omega), if_pos (by omega), if_pos (by omega)]
    by_cases h1 : lo ≤ l.getD i 0 ∧ l.getD i 0 ≤ hi
    · rw [if_pos h1]
      unfold ascAt at hp
      rw [decide_eq_true h1] at hp
      simp only [Bool.true_and, Bool.or_eq_false_iff, decide_eq_false_iff_not] at hp
      rw [if_pos (by omega), wrap_pred (by omega) hi' hl, rd_nat, if_pos (by omega), if_pos (by omega), if_pos (by omega)]
    · rw [if_neg h1]
  · intro k _
    simp only [impl_isAscending.l0]
    rw [if_neg (by omega)]
def isIssuer (a : Int) (l : List Int) (c : Int) : Bool := decide (0 ≤ a ∧ a ≤ 9) && (asc l 1 4 && decide (1 ≤ c ∧ c ≤ 2147483646))
theorem issuer2 (a : Int) (l : List Int) (c : Int) (hl : l.length ≤ 1099511627776) (k : Nat) (hk : l.length < k) : impl_IsIssuer.f k a l c = some (isIssuer a l c) := by
  simp only [impl_IsIssuer.f, impl_IsValidKey.f, in2, asc2 l 1 4 hl k hk, Option.bind_some, ite_and]
  rfl
theorem issuer1 (a : Int) (l : List Int) (c : Int) (hl : l.length ≤ 1099511627776) (k : Nat) (hk : l.length < k) : spec_IsIssuer.f k a l c = some (isIssuer a l c) := by
  unfold spec_IsIssuer.f
  rw [allLoop (fun k i => spec_IsIssuer.l0 k i a l c) l.length 0 (ascAt l 1 4) false (decide (0 ≤ a ∧ a ≤ 9) && decide (1 ≤ c ∧ c ≤ 2147483646)) ?_ ?_ ?_ k (by omega)]
  · unfold isIssuer asc
    cases (List.range l.length).all (ascAt l 1 4) <;> simp
  · intro k i _ hi' hp
    simp only [ascAt, Bool.and_eq_true, Bool.or_eq_true, decide_eq_true_eq] at hp
    simp only [spec_IsIssuer.l0, in1, rd_nat, Option.bind_some, decide_eq_true_eq]
    rw [if_pos (by omega), if_pos (by omega), if_pos hp.1, wrap_succ hi' hl]
    rcases Nat.eq_zero_or_pos i with h0 | h0
    · rw [if_neg (by omega)]
    · rw [if_pos (by omega), wrap_pred h0 hi' hl, rd_nat, if_pos (by omega), if_pos (by omega), if_neg (by omega)]
  · intro k i _ hi' hp
    simp only [spec_IsIssuer.l0, in1, rd_nat, Option.bind_some, decide_eq_true_eq]
    rw [if_pos (by omega), if_pos (by omega)]
    by_cases h1 : 1 ≤ l.getD i 0 ∧ l.getD i 0 ≤ 4
    · rw [if_pos h1]
      unfold ascAt at hp
      rw [decide_eq_true h1] at hp
      simp only [Bool.true_and, Bool.or_eq_false_iff, decide_eq_false_iff_not] at hp
      rw [if_pos (by omega), wrap_pred (by omega) hi' hl, rd_nat, if_pos (by omega), if_pos (by omega), if_pos (by omega)]
    · rw [if_neg h1]
  · intro k _
    simp only [spec_IsIssuer.l0, spec_IsValidKey.f, in1, Option.bind_some]
    rw [if_neg (by omega), ite_and]
def timeOk (t : Int) : Bool := decide (0 ≤ t ∧ t ≤ 10000)
theorem time1 (t : Int) : spec_IsTime.f t = some (timeOk t) := by
  simp only [spec_IsTime.f, in1, Option.bind_some]
  rfl
theorem time2 (t : Int) : impl_IsTime.f t = some (timeOk t) := by
  simp only [impl_IsTime.f, in2, Option.bind_some]
  rfl
def hasKind (n k : Int) : Bool := decide (10 ≤ n ∧ n ≤ 49) && (wrap64 (Int.tdiv n 10) == k)
theorem kind1 (n k : Int) : spec_HasKind.f n k = some (hasKind n k) := by
  simp only [spec_HasKind.f, spec_IsName.f, in1, Option.bind_some, ite_and]
  rfl
theorem kind2 (n k : Int) : impl_HasKind.f n k = some (hasKind n k) := by
  simp only [impl_HasKind.f, impl_KindOf.f, impl_IsName.f, in2, Option.bind_some]
  unfold hasKind
  cases decide (10 ≤ n ∧ n ≤ 49) <;> rfl
def claimOk (a b c : Int) : Bool :=
  if a = 1 then hasKind b 1 && decide (0 ≤ c ∧ c ≤ 5) else if a = 2 then hasKind b 1 && hasKind c 2 else if a = 3 then hasKind b 2 && decide (0 ≤ c ∧ c ≤ 3) else if a = 4 then hasKind b 3 && decide (0 ≤ c ∧ c ≤ 3) else false
def isFact (a b c d e f : Int) : Bool := claimOk a b c && (decide (0 ≤ d ∧ d ≤ 9) && (timeOk e && (timeOk f && decide (e ≤ f))))
theorem fact1 (a b c d e f : Int) : spec_IsFact.f a b c d e f = some (isFact a b c d e f) := by
  simp only [spec_IsFact.f, kind1, in1, time1, Option.bind_some, ite_and]
  unfold isFact claimOk
  by_cases h1 : a = 1
  · simp only [if_pos h1, Bool.and_assoc]
  by_cases h2 : a = 2
  · simp only [if_neg h1, if_pos h2, Bool.and_assoc]
  by_cases h3 : a = 3
  · simp only [if_neg h1, if_neg h2, if_pos h3, Bool.and_assoc]
  by_cases h4 : a = 4
  · simp only [if_neg h1, if_neg h2, if_neg h3, if_pos h4, Bool.and_assoc]
  · simp only [if_neg h1, if_neg h2, if_neg h3, if_neg h4, Bool.false_and]
theorem fact2 (a b c d e f : Int) : impl_IsFact.f a b c d e f = some (isFact a b c d e f) := by
  simp only [impl_IsFact.f, impl_isClaim.f, kind2, in2, time2, Option.bind_some, ite_and]
  unfold isFact claimOk
  by_cases h1 : a = 1
  · simp only [if_pos h1, Option.bind_some, ite_and]
  by_cases h2 : a = 2
  · simp only [if_neg h1, if_pos h2, Option.bind_some, ite_and]
  by_cases h3 : a = 3
  · simp only [if_neg h1, if_neg h2, if_pos h3, Option.bind_some, ite_and]
  by_cases h4 : a = 4
  · simp only [if_neg h1, if_neg h2, if_neg h3, if_pos h4, Option.bind_some, ite_and]
  · simp only [if_neg h1, if_neg h2, if_neg h3, if_neg h4, Option.bind_some, ite_and]
def has (l : List Int) (n : Int) : Bool := (List.range l.length).any fun i => l.getD i 0 == n
theorem index2 (l : List Int) (n : Int) (hl : l.length ≤ 1099511627776) (k : Nat) (hk : l.length < k) : slices_Index_int_int.f k l n = some (((List.range l.length).find? fun i => l.getD i 0 == n).elim (-1) fun i => (i : Int)) := by
  unfold slices_Index_int_int.f
  refine findLoop (fun k i => slices_Index_int_int.l0 k l n (l.length : Int) i) l.length 0 (fun i => l.getD i 0 == n) (fun i => (i : Int)) (-1) ?_ ?_ ?_ k (by omega)
  · intro k i _ hi hp
    have hp' : ¬ l.getD i 0 = n := by simpa using hp
    simp only [slices_Index_int_int.l0, rd_nat]
    rw [if_pos (by omega), if_pos (by omega), if_pos (by omega), if_neg (fun h => hp' h.symm), wrap_succ hi hl]
  · intro k i _ hi hp
    have hp' : l.getD i 0 = n := by simpa using hp
    simp only [slices_Index_int_int.l0, rd_nat]
    rw [if_pos (by omega), if_pos (by omega), if_pos (by omega), if_pos hp'.symm]
  · intro k _
    simp only [slices_Index_int_int.l0]
    rw [if_neg (by omega)]
theorem has2 (l : List Int) (n : Int) (hl : l.length ≤ 1099511627776) (k : Nat) (hk : l.length < k) : slices_Contains_int_int.f k l n = some (has l n) := by
  unfold slices_Contains_int_int.f has
  rw [index2 l n hl k hk, Option.bind_some]
  congr 1
  cases hf : (List.range l.length).find? fun i => l.getD i 0 == n with
  | none =>
    rw [List.find?_eq_none] at hf
    show decide ((-1 : Int) ≥ 0) = _
    rw [eq_comm, show decide ((-1 : Int) ≥ 0) = false from rfl, List.any_eq_false]
    exact hf
  | some i =>
    rw [List.find?_range_eq_some] at hf
    show decide ((i : Int) ≥ 0) = _
    rw [eq_comm, decide_eq_true (show (i : Int) ≥ 0 by omega), List.any_eq_true]
    exact ⟨i, hf.2.1, hf.1⟩
def stateF (a : Int) (l : List Int) (c f0 f1 f2 f4 f5 : Int) : Int × Int × Int × Int × Int × Int × Int × Bool :=
  if (isIssuer a l c && (isFact f0 f1 f2 a f4 f5 && has l f0)) = true then (f0, f1, f2, a, f4, f5, keyed c [f0, f1, f2, a, f4, f5], true) else (0, 0, 0, 0, 0, 0, 0, false)
theorem state2 (a : Int) (l : List Int) (c f0 f1 f2 f3 f4 f5 : Int) (hl : l.length ≤ 1048576) (k : Nat) (hk : 1048640 < k) : impl_StateFact.f k a l c f0 f1 f2 f3 f4 f5 = some (stateF a l c f0 f1 f2 f4 f5) := by
  obtain ⟨k, rfl⟩ : ∃ m, k = m + 1 := ⟨k - 1, by omega⟩
  simp only [impl_StateFact.f, impl_StateFact.j0, impl_FactInts.f, issuer2 a l c (by omega) (k + 1) (by omega), fact2, has2 l f0 (by omega) (k + 1) (by omega), keyed2 c [f0, f1, f2, a, f4, f5] (by simp) k (by simp; omega), Option.bind_some]
  unfold stateF
  cases isIssuer a l c
  · rfl
  cases isFact f0 f1 f2 a f4 f5
  · rfl
  cases has l f0 <;> rfl
theorem state1 (a : Int) (l : List Int) (c f0 f1 f2 f3 f4 f5 : Int) (hl : l.length ≤ 1048576) (k : Nat) (hk : 2097300 < k) : spec_StateFact.f k a l c f0 f1 f2 f3 f4 f5 = some (stateF a l c f0 f1 f2 f4 f5) := by
  unfold spec_StateFact.f
  refine run (fun k s i => spec_StateFact.l0 k s i a l c f0 f1 f2 a f4 f5) (fun i => (List.range i).any fun j => l.getD j 0 == f0) l.length 1048640 _ ?_ ?_ k (by omega)
  · intro k i hB hi
    rw [List.range_succ, List.any_append]
    simp only [spec_StateFact.l0, rd_nat]
    rw [if_pos (by omega), wrap_succ hi (by omega)]
    cases (List.range i).any fun j => l.getD j 0 == f0
    · rw [if_neg (by simp), if_pos (by omega)]
      simp
    · simp
  · intro k hB
    obtain ⟨k, rfl⟩ : ∃ m, k = m + 1 := ⟨k - 1, by omega⟩
    simp only [spec_StateFact.l0, spec_StateFact.j1, spec_FactInts.f, issuer1 a l c (by omega) (k + 1) (by omega), fact1, keyed1 c [f0, f1, f2, a, f4, f5] (by simp) k (by simp; omega), Option.bind_some]
    rw [if_neg (by omega)]
    unfold stateF
    rw [show ((List.range l.length).any fun j => l.getD j 0 == f0) = has l f0 from rfl]
    cases isIssuer a l c
    · rfl
    cases isFact f0 f1 f2 a f4 f5
    · rfl
    cases has l f0 <;> rfl
theorem rdT55 (l : List S55) (i : Nat) : rd_T55 l (i : Int) = l.getD i z55 := by
  unfold rd_T55
  rw [Int.toNat_natCast]
theorem rdIb (l : List S48) (i : Nat) : rd_T48 l (i : Int) = l.getD i z48 := by
  unfold rd_T48
  rw [Int.toNat_natCast]
def findIssuer (l : List S48) (s : Int) : Int := ((List.range l.length).find? fun i => (l.getD i z48).f0 == s).elim (-1) fun i => (i : Int)
theorem findIssuer1 (l : List S48) (s : Int) (hl : l.length ≤ 1099511627776) (k : Nat) (hk : l.length < k) : spec_FindIssuer.f k l s = some (findIssuer l s) := by
  unfold spec_FindIssuer.f
  refine findLoop (fun k i => spec_FindIssuer.l0 k l s i) l.length 0 (fun i => (l.getD i z48).f0 == s) (fun i => (i : Int)) (-1) ?_ ?_ ?_ k (by omega)
  · intro k i _ hi hp
    simp only [spec_FindIssuer.l0, rdIb]
    rw [if_pos (by omega), if_pos (by omega), if_neg (by simpa using hp), wrap_succ hi hl]
  · intro k i _ hi hp
    simp only [spec_FindIssuer.l0, rdIb]
    rw [if_pos (by omega), if_pos (by omega), if_pos (by simpa using hp)]
  · intro k _
    simp only [spec_FindIssuer.l0]
    rw [if_neg (by omega)]
theorem findIssuer2 (l : List S48) (s : Int) : impl_FindIssuer.f l s = some (findIssuer l s) := rfl
theorem findIssuer_cases (l : List S48) (s : Int) : findIssuer l s = -1 ∨ ∃ i : Nat, i < l.length ∧ findIssuer l s = (i : Int) ∧ (l.getD i z48).f0 = s := by
  unfold findIssuer
  cases hf : (List.range l.length).find? fun i => (l.getD i z48).f0 == s with
  | none => exact .inl rfl
  | some i =>
    rw [List.find?_range_eq_some] at hf
    exact .inr ⟨i, by simpa using hf.2.1, rfl, by simpa using hf.1⟩
def believed (l : List S48) (f0 f1 f2 f3 f4 f5 m : Int) : Bool :=
  if findIssuer l f3 < 0 then false else
    let x := l.getD (findIssuer l f3).toNat z48
    let t := stateF x.f0 x.f1 x.f2 f0 f1 f2 f4 f5
    t.2.2.2.2.2.2.2 && ((t.1 == f0 && (t.2.1 == f1 && (t.2.2.1 == f2 && (t.2.2.2.1 == f3 && (t.2.2.2.2.1 == f4 && (t.2.2.2.2.2.1 == f5)))))) && (t.2.2.2.2.2.2.1 == m))
theorem believed1 (l : List S48) (f0 f1 f2 f3 f4 f5 m : Int) (hl : l.length ≤ 1048576) (hw : ∀ x ∈ l, x.f1.length ≤ 1048576) (k : Nat) (hk : 4000000 < k) : spec_IsBelieved.f k l f0 f1 f2 f3 f4 f5 m = some (believed l f0 f1 f2 f3 f4 f5 m) := by
  simp only [spec_IsBelieved.f, findIssuer1 l f3 (by omega) k (by omega), Option.bind_some]
  unfold believed
  rcases findIssuer_cases l f3 with h | ⟨i, hi, h, _⟩
  · rw [h, if_pos (by omega), if_pos (by omega)]
  · rw [h, if_neg (by omega), if_pos (by omega), if_pos (by omega), rdIb, state1 _ _ _ _ _ _ _ _ _ (hw _ (getD_mem l i _ hi)) k (by omega), Option.bind_some, ite_and, if_neg (by omega), Int.toNat_natCast]
theorem believed2 (l : List S48) (f0 f1 f2 f3 f4 f5 m : Int) (hl : l.length ≤ 1048576) (hw : ∀ x ∈ l, x.f1.length ≤ 1048576) (k : Nat) (hk : 4000000 < k) : impl_IsBelieved.f k l f0 f1 f2 f3 f4 f5 m = some (believed l f0 f1 f2 f3 f4 f5 m) := by
  simp only [impl_IsBelieved.f, findIssuer2, Option.bind_some]
  unfold believed
  rcases findIssuer_cases l f3 with h | ⟨i, hi, h, _⟩
  · rw [h, if_pos (by omega), if_pos (by omega)]
  · rw [h, if_neg (by omega), if_pos (by omega), if_pos (by omega), rdIb, state2 _ _ _ _ _ _ _ _ _ (hw _ (getD_mem l i _ hi)) k (by omega), Option.bind_some, ite_and, if_neg (by omega), Int.toNat_natCast]
def bef (a b : S55) : Bool := decide (a.f0 < b.f0) || (decide (a.f0 = b.f0) && (decide (a.f1 < b.f1) || (decide (a.f1 = b.f1) && (decide (a.f2 < b.f2) || (decide (a.f2 = b.f2) && decide (a.f3 < b.f3))))))
def sam (a b : S55) : Bool := decide (a.f0 = b.f0 ∧ a.f1 = b.f1 ∧ a.f2 = b.f2 ∧ a.f3 = b.f3)
def lat (a b : S55) : Bool := decide (a.f4 > b.f4 ∨ (a.f4 = b.f4 ∧ a.f5 > b.f5))
theorem bef_iff (a b : S55) : bef a b = true ↔ (a.f0 < b.f0 ∨ (a.f0 = b.f0 ∧ (a.f1 < b.f1 ∨ (a.f1 = b.f1 ∧ (a.f2 < b.f2 ∨ (a.f2 = b.f2 ∧ a.f3 < b.f3)))))) := by
  simp only [bef, Bool.or_eq_true, Bool.and_eq_true, decide_eq_true_eq]
theorem sam_iff (a b : S55) : sam a b = true ↔ (a.f0 = b.f0 ∧ a.f1 = b.f1 ∧ a.f2 = b.f2 ∧ a.f3 = b.f3) := by
  simp only [sam, decide_eq_true_eq]
theorem before1 (a b : S55) : spec_FactBefore.f a.f0 a.f1 a.f2 a.f3 a.f4 a.f5 b.f0 b.f1 b.f2 b.f3 b.f4 b.f5 = some (bef a b) := by
  unfold spec_FactBefore.f
  by_cases h0 : a.f0 = b.f0
  · rw [if_pos h0]
    by_cases h1 : a.f1 = b.f1
    · rw [if_pos h1]
      by_cases h2 : a.f2 = b.f2
      · rw [if_pos h2]
        exact congrArg some (Bool.eq_iff_iff.2 (by rw [bef_iff, decide_eq_true_eq]; omega))
      · rw [if_neg h2]
        exact congrArg some (Bool.eq_iff_iff.2 (by rw [bef_iff, decide_eq_true_eq]; omega))
    · rw [if_neg h1]
      exact congrArg some (Bool.eq_iff_iff.2 (by rw [bef_iff, decide_eq_true_eq]; omega))
  · rw [if_neg h0]
    exact congrArg some (Bool.eq_iff_iff.2 (by rw [bef_iff, decide_eq_true_eq]; omega))
theorem same1 (a b : S55) : spec_SameClaim.f a.f0 a.f1 a.f2 a.f3 a.f4 a.f5 b.f0 b.f1 b.f2 b.f3 b.f4 b.f5 = some (sam a b) := by
  unfold spec_SameClaim.f sam
  by_cases h0 : a.f0 = b.f0
  · rw [if_pos h0]
    by_cases h1 : a.f1 = b.f1
    · rw [if_pos h1]
      by_cases h2 : a.f2 = b.f2
      · rw [if_pos h2]
        by_cases h3 : a.f3 = b.f3
        · simp [h0, h1, h2, h3]
        · simp [h3]
      · rw [if_neg h2]; simp [h2]
    · rw [if_neg h1]; simp [h1]
  · rw [if_neg h0]; simp [h0]
theorem cmpGo_cases (a b : S55) : (bef a b = true ∧ sam a b = false ∧ cmpGo [(a.f0, b.f0), (a.f1, b.f1), (a.f2, b.f2), (a.f3, b.f3)] = -1) ∨ (bef a b = false ∧ sam a b = true ∧ cmpGo [(a.f0, b.f0), (a.f1, b.f1), (a.f2, b.f2), (a.f3, b.f3)] = 0) ∨ (bef a b = false ∧ sam a b = false ∧ cmpGo [(a.f0, b.f0), (a.f1, b.f1), (a.f2, b.f2), (a.f3, b.f3)] = 1) := by
  have e1 : ∀ x : Bool, x = false ↔ ¬ x = true := by intro x; cases x <;> simp
  simp only [e1, bef_iff, sam_iff]
  simp only [cmpGo]
  by_cases h0 : a.f0 < b.f0
  · rw [if_pos h0]; omega
  rw [if_neg h0]
  by_cases h0' : a.f0 > b.f0
  · rw [if_pos h0']; omega
  rw [if_neg h0']
  by_cases h1 : a.f1 < b.f1
  · rw [if_pos h1]; omega
  rw [if_neg h1]
  by_cases h1' : a.f1 > b.f1
  · rw [if_pos h1']; omega
  rw [if_neg h1']
  by_cases h2 : a.f2 < b.f2
  · rw [if_pos h2]; omega
  rw [if_neg h2]
  by_cases h2' : a.f2 > b.f2
  · rw [if_pos h2']; omega
  rw [if_neg h2']
  by_cases h3 : a.f3 < b.f3
  · rw [if_pos h3]; omega
  rw [if_neg h3]
  by_cases h3' : a.f3 > b.f3
  · rw [if_pos h3']; omega
  rw [if_neg h3']; omega
theorem before2 (a b : S55) : impl_FactBefore.f a.f0 a.f1 a.f2 a.f3 a.f4 a.f5 b.f0 b.f1 b.f2 b.f3 b.f4 b.f5 = some (bef a b) := by
  simp only [impl_FactBefore.f, impl_compareClaims.f, Option.bind_some]
  rcases cmpGo_cases a b with ⟨h, _, e⟩ | ⟨h, _, e⟩ | ⟨h, _, e⟩ <;> rw [e, h] <;> rfl
theorem same2 (a b : S55) : impl_SameClaim.f a.f0 a.f1 a.f2 a.f3 a.f4 a.f5 b.f0 b.f1 b.f2 b.f3 b.f4 b.f5 = some (sam a b) := by
  simp only [impl_SameClaim.f, impl_compareClaims.f, Option.bind_some]
  rcases cmpGo_cases a b with ⟨_, h, e⟩ | ⟨_, h, e⟩ | ⟨_, h, e⟩ <;> rw [e, h] <;> rfl
theorem later2 (a b : S55) : impl_isLater.f a.f0 a.f1 a.f2 a.f3 a.f4 a.f5 b.f0 b.f1 b.f2 b.f3 b.f4 b.f5 = some (lat a b) := by
  unfold impl_isLater.f lat
  by_cases h : a.f4 > b.f4
  · rw [if_pos h, decide_eq_true (.inl h)]
  · rw [if_neg h]
    by_cases h1 : a.f4 = b.f4
    · rw [if_pos h1]
      by_cases h2 : a.f5 > b.f5
      · rw [decide_eq_true h2, decide_eq_true (.inr ⟨h1, h2⟩)]
      · rw [decide_eq_false h2, decide_eq_false (by omega)]
    · rw [if_neg h1, decide_eq_false (by omega)]
theorem bef_trans {a b c : S55} (h : bef a b = true) (g : bef b c = true) : bef a c = true := by
  rw [bef_iff] at *; omega
theorem bef_sam {a b c : S55} (h : sam a b = true) (g : bef b c = true) : bef a c = true := by
  rw [sam_iff] at h; rw [bef_iff] at *; omega
theorem bef_not {a b : S55} (h : bef a b = true) : bef b a = false ∧ sam a b = false ∧ sam b a = false := by
  rw [← Bool.not_eq_true, ← Bool.not_eq_true, ← Bool.not_eq_true, bef_iff, sam_iff, sam_iff]; rw [bef_iff] at h; omega
theorem sam_not {a b : S55} (h : sam a b = true) : bef a b = false ∧ bef b a = false ∧ sam b a = true := by
  rw [← Bool.not_eq_true, ← Bool.not_eq_true, bef_iff, bef_iff, sam_iff]; rw [sam_iff] at h; omega
theorem bef_else {a b : S55} (h : bef a b = false) (g : sam a b = false) : bef b a = true := by
  rw [← Bool.not_eq_true, bef_iff] at h; rw [← Bool.not_eq_true, sam_iff] at g; rw [bef_iff]; omega
def okF (x : S55) : Bool := isFact x.f0 x.f1 x.f2 x.f3 x.f4 x.f5
def storeAt (l : List S55) (i : Nat) : Bool := okF (l.getD i z55) && (decide (i = 0) || bef (l.getD (i - 1) z55) (l.getD i z55))
def store (l : List S55) : Bool := if (List.range l.length).all (storeAt l) = true then decide ((l.length : Int) ≤ 30) else false
theorem store1 (l : List S55) (hl : l.length ≤ 1099511627776) (k : Nat) (hk : l.length < k) : spec_IsStore.f k l = some (store l) := by
  unfold spec_IsStore.f
  refine allLoop (fun k i => spec_IsStore.l0 k l i) l.length 0 (storeAt l) false (decide ((l.length : Int) ≤ 30)) ?_ ?_ ?_ k (by omega)
  · intro k i _ hi hp
    simp only [storeAt, okF, Bool.and_eq_true, Bool.or_eq_true, decide_eq_true_eq] at hp
    simp only [spec_IsStore.l0, fact1, rdT55, Option.bind_some]
    rw [if_pos (by omega), if_pos (by omega), if_pos hp.1, wrap_succ hi hl]
    rcases Nat.eq_zero_or_pos i with h0 | h0
    · rw [if_neg (by omega)]
    · rw [if_pos (by omega), wrap_pred h0 hi hl, rdT55, if_pos (by omega), if_pos (by omega), before1, Option.bind_some, if_pos (by rcases hp.2 with h | h; omega; exact h)]
  · intro k i _ hi hp
    simp only [spec_IsStore.l0, fact1, rdT55, Option.bind_some]
    rw [if_pos (by omega), if_pos (by omega)]
    by_cases h1 : okF (l.getD i z55) = true
    · have h1' := h1
      unfold okF at h1'
      rw [if_pos h1']
      unfold storeAt at hp
      rw [h1] at hp
      simp only [Bool.true_and, Bool.or_eq_false_iff, decide_eq_false_iff_not] at hp
      rw [if_pos (by omega), wrap_pred (by omega) hi hl, rdT55, if_pos (by omega), if_pos (by omega), before1, Option.bind_some, if_neg (by rw [hp.2]; simp)]
    · rw [if_neg (by unfold okF at h1; exact h1)]
  · intro k _
    simp only [spec_IsStore.l0]
    rw [if_neg (by omega)]
theorem store2 (l : List S55) (hl : l.length ≤ 1099511627776) (k : Nat) (hk : l.length < k) : impl_IsStore.f k l = some (store l) := by
  unfold impl_IsStore.f
  refine allLoop (fun k i => impl_IsStore.l0 k l l (l.length : Int) i) l.length 0 (storeAt l) false (decide ((l.length : Int) ≤ 30)) ?_ ?_ ?_ k (by omega)
  · intro k i _ hi hp
    simp only [storeAt, okF, Bool.and_eq_true, Bool.or_eq_true, decide_eq_true_eq] at hp
    simp only [impl_IsStore.l0, fact2, rdT55, Option.bind_some]
    rw [if_pos (by omega), if_pos (by omega), if_pos (by omega), if_pos hp.1, wrap_succ hi hl]
    rcases Nat.eq_zero_or_pos i with h0 | h0
    · rw [if_neg (by omega)]
    · rw [if_pos (by omega), wrap_pred h0 hi hl, rdT55, if_pos (by omega), if_pos (by omega), before2, Option.bind_some, if_pos (by rcases hp.2 with h | h; omega; exact h)]
  · intro k i _ hi hp
    simp only [impl_IsStore.l0, fact2, rdT55, Option.bind_some]
    rw [if_pos (by omega), if_pos (by omega), if_pos (by omega)]
    by_cases h1 : okF (l.getD i z55) = true
    · have h1' := h1
      unfold okF at h1'
      rw [if_pos h1']
      unfold storeAt at hp
      rw [h1] at hp
      simp only [Bool.true_and, Bool.or_eq_false_iff, decide_eq_false_iff_not] at hp
      rw [if_pos (by omega), wrap_pred (by omega) hi hl, rdT55, if_pos (by omega), if_pos (by omega), before2, Option.bind_some, if_neg (by rw [hp.2]; simp)]
    · rw [if_neg (by unfold okF at h1; exact h1)]
  · intro k _
    simp only [impl_IsStore.l0]
    rw [if_neg (by omega)]
theorem store_at (l : List S55) (h : store l = true) : (∀ i, i < l.length → storeAt l i = true) ∧ l.length ≤ 30 := by
  unfold store at h
  split at h
  · rename_i ha
    rw [List.all_eq_true] at ha
    exact ⟨fun i hi => ha i (List.mem_range.2 hi), by have := of_decide_eq_true h; omega⟩
  · cases h
theorem store_pair (l : List S55) (h : store l = true) : (∀ x ∈ l, okF x = true) ∧ l.Pairwise (fun x y => bef x y = true) ∧ l.length ≤ 30 := by
  obtain ⟨hA, h30⟩ := store_at l h
  refine ⟨fun x hx => ?_, ?_, h30⟩
  · obtain ⟨i, hi, rfl⟩ := List.mem_iff_getElem.1 hx
    have := hA i hi
    simp only [storeAt, Bool.and_eq_true] at this
    have := this.1
    rwa [getD_get l i z55 hi] at this
  · have nx : ∀ i, i + 1 < l.length → bef (l.getD i z55) (l.getD (i + 1) z55) = true := by
      intro i hi
      have := hA (i + 1) hi
      simp only [storeAt, Bool.and_eq_true, Bool.or_eq_true, decide_eq_true_eq] at this
      rcases this.2 with h | h
      · omega
      · simpa using h
    have key : ∀ d i, i + d + 1 < l.length → bef (l.getD i z55) (l.getD (i + d + 1) z55) = true := by
      intro d
      induction d with
      | zero => intro i hi; exact nx i hi
      | succ d ih =>
        intro i hi
        exact bef_trans (ih i (by omega)) (nx (i + d + 1) (by omega))
    rw [List.pairwise_iff_getElem]
    intro i j hi hj hij
    have := key (j - i - 1) i (by omega)
    rw [show i + (j - i - 1) + 1 = j by omega, getD_get l i z55 hi, getD_get l j z55 hj] at this
    exact this
theorem pair_store (l : List S55) (h1 : ∀ x ∈ l, okF x = true) (h2 : l.Pairwise (fun x y => bef x y = true)) (h3 : l.length ≤ 30) : store l = true := by
  unfold store
  rw [if_pos]
  · exact decide_eq_true (by omega)
  · rw [List.all_eq_true]
    intro i hi
    have hi' := List.mem_range.1 hi
    unfold storeAt
    rw [getD_get l i z55 hi', h1 _ (List.getElem_mem hi'), Bool.true_and, Bool.or_eq_true]
    rcases Nat.eq_zero_or_pos i with h | h
    · exact .inl (decide_eq_true h)
    · right
      rw [getD_get l (i - 1) z55 (by omega)]
      exact (List.pairwise_iff_getElem.1 h2) (i - 1) i (by omega) hi' (by omega)
def putOne (f x : S55) : S55 := if sam f x = true then (if lat f x = true then f else x) else x
def putS (f : S55) : List S55 → Bool → List S55
  | [], seen => if seen = true then [] else [f]
  | x :: r, seen => if seen = false ∧ bef f x = true then f :: putOne f x :: putS f r true else putOne f x :: putS f r (seen || sam f x)
def putFin (l out : List S55) : List S55 × Bool := if (out.length : Int) > 30 then (l, false) else (out, true)
def putF (l : List S55) (f : S55) : List S55 × Bool := if store l = true then (if okF f = true then putFin l (putS f l false) else (l, false)) else (l, false)
theorem putF_len (l : List S55) (f : S55) : (putF l f).1.length ≤ l.length + 30 := by
  unfold putF
  split
  · split
    · unfold putFin
      split
      · exact Nat.le_add_right _ _
      · simp only; omega
    · exact Nat.le_add_right _ _
  · exact Nat.le_add_right _ _
theorem getF_mid (a r : List S55) (x : S55) : (a ++ x :: r).getD a.length z55 = x := by
  rw [getD_get _ _ _ (by simp), List.getElem_append_right (Nat.le_refl _)]
  simp
theorem l7Copy (l : List S55) (hl : l.length ≤ 40000000) : spec_l7Copy.f l = some l := by
  unfold spec_l7Copy.f
  simp only [Option.bind_some, List.nil_append, List.length_nil, Nat.zero_add]
  rw [if_pos (by omega)]
theorem copyFacts (l : List S55) (hl : l.length ≤ 40000000) : impl_copyFacts.f l = some l := by
  unfold impl_copyFacts.f
  simp only [Option.bind_some, List.nil_append, List.length_nil, Nat.zero_add]
  rw [if_pos (by omega)]
theorem putLoop (l : List S55) (f : S55) (hl : l.length ≤ 40000000) : ∀ (b a acc : List S55) (seen : Bool) (k : Nat), l = a ++ b → acc.length ≤ 2 * a.length → 3 * b.length + 5 < k → spec_PutFact.l0 k l acc seen (a.length : Int) f.f0 f.f1 f.f2 f.f3 f.f4 f.f5 = some (putFin l (acc ++ putS f b seen)) := by
  intro b
  induction b with
  | nil =>
    intro a acc seen k he hacc hk
    obtain ⟨k, rfl⟩ : ∃ m, k = m + 1 := ⟨k - 1, by omega⟩
    have hla : l.length = a.length := by rw [he]; simp
    simp only [spec_PutFact.l0]
    rw [if_neg (by omega)]
    cases seen with
    | true =>
      rw [if_pos rfl]
      simp only [putS, if_true, List.append_nil, l7Copy l hl, Option.bind_some]
      unfold putFin
      split <;> rfl
    | false =>
      rw [if_neg (by simp), if_pos (by omega)]
      simp only [putS, Bool.false_eq_true, if_false, Option.bind_some, l7Copy l hl]
      unfold putFin
      by_cases h : (((acc ++ [f]).length : Nat) : Int) > 30
      · exact (if_pos h).trans (congrArg some (if_pos h).symm)
      · exact (if_neg h).trans (congrArg some (if_neg h).symm)
  | cons x r ih =>
    intro a acc seen k he hacc hk
    obtain ⟨k, rfl⟩ : ∃ m, k = m + 1 + 1 + 1 := ⟨k - 3, by omega⟩
    have hla : l.length = a.length + (r.length + 1) := by rw [he]; simp
    have hx : rd_T55 l (a.length : Int) = x := by rw [rdT55, he, getF_mid]
    have hw : wrap64 ((a.length : Int) + 1) = (((a ++ [x]).length : Nat) : Int) := by rw [List.length_append]; unfold wrap64; simp; omega
    have he' : l = (a ++ [x]) ++ r := by rw [he]; simp
    have hal : (a ++ [x]).length = a.length + 1 := by simp
    have I : ∀ acc2 seen2, acc2.length ≤ acc.length + 2 → spec_PutFact.l0 k l acc2 seen2 (((a ++ [x]).length : Nat) : Int) f.f0 f.f1 f.f2 f.f3 f.f4 f.f5 = some (putFin l (acc2 ++ putS f r seen2)) := fun acc2 seen2 h => ih (a ++ [x]) acc2 seen2 k he' (by omega) (by simp only [List.length_cons] at hk; omega)
    have hj3 : ∀ acc2 seen2, acc2.length ≤ acc.length + 1 → spec_PutFact.j3 (k + 1) l acc2 seen2 (a.length : Int) f.f0 f.f1 f.f2 f.f3 f.f4 f.f5 = some (putFin l (acc2 ++ putOne f x :: putS f r (seen2 || sam f x))) := by
      intro acc2 seen2 h2
      have L : acc2.length < 2932031007402 := by omega
      simp only [spec_PutFact.j3, hx, same1, Option.bind_some, hw]
      rw [if_pos (by omega), if_pos (by omega)]
      have A : ∀ (e : S55) s2, spec_PutFact.l0 k l (acc2 ++ [e]) s2 (((a ++ [x]).length : Nat) : Int) f.f0 f.f1 f.f2 f.f3 f.f4 f.f5 = some (putFin l (acc2 ++ e :: putS f r s2)) := by
        intro e s2
        rw [I _ _ (by simp; omega)]
        simp
      by_cases hs : sam f x = true
      · rw [if_pos hs, hs, Bool.or_true]
        unfold putOne
        rw [if_pos hs]
        by_cases h4 : f.f4 > x.f4
        · rw [if_pos h4, if_pos L, if_pos (show lat f x = true from decide_eq_true (.inl h4))]
          exact A f true
        · rw [if_neg h4]
          by_cases h5 : f.f4 = x.f4
          · rw [if_pos h5]
            by_cases h6 : f.f5 > x.f5
            · rw [if_pos h6, if_pos L, if_pos (show lat f x = true from decide_eq_true (.inr ⟨h5, h6⟩))]
              exact A f true
            · rw [if_neg h6, if_pos L, if_neg (by unfold lat; rw [decide_eq_true_eq]; omega)]
              exact A x true
          · rw [if_neg h5, if_pos L, if_neg (by unfold lat; rw [decide_eq_true_eq]; omega)]
            exact A x true
      · have hs' : sam f x = false := by simpa using hs
        rw [if_neg hs, if_pos L]
        unfold putOne
        rw [if_neg hs, hs', Bool.or_false]
        exact A x seen2
    have hj : ∀ q : Bool, q = (!seen && bef f x) → spec_PutFact.j2 (k + 1 + 1) l acc seen (a.length : Int) q f.f0 f.f1 f.f2 f.f3 f.f4 f.f5 = some (putFin l (acc ++ putS f (x :: r) seen)) := by
      intro q hq
      simp only [spec_PutFact.j2]
      cases q with
      | true =>
        have hq' := hq.symm
        simp only [Bool.and_eq_true, Bool.not_eq_true'] at hq'
        rw [if_pos rfl, if_pos (by omega)]
        refine (hj3 (acc ++ [f]) true (by simp)).trans ?_
        rw [putS, if_pos hq']
        simp
      | false =>
        have hq' : ¬ (seen = false ∧ bef f x = true) := by
          rintro ⟨e1, e2⟩
          rw [e1, e2] at hq
          cases hq
        rw [if_neg (by simp), hj3 acc seen (by omega), putS, if_neg hq']
    simp only [spec_PutFact.l0, hx, before1, Option.bind_some]
    rw [if_pos (by omega)]
    cases seen with
    | true => rw [if_pos rfl]; exact hj false (by simp)
    | false => rw [if_neg (by simp), if_pos (by omega)]; exact hj _ (by simp)
theorem put1 (l : List S55) (f : S55) (hl : l.length ≤ 40000000) (k : Nat) (hk : 4 * l.length + 20 < k) : spec_PutFact.f k l f.f0 f.f1 f.f2 f.f3 f.f4 f.f5 = some (putF l f) := by
  obtain ⟨k, rfl⟩ : ∃ m, k = m + 1 := ⟨k - 1, by omega⟩
  simp only [spec_PutFact.f, store1 l (by omega) (k + 1) (by omega), fact1, Option.bind_some]
  unfold putF
  by_cases hS : store l = true
  · rw [if_pos hS, if_pos hS]
    unfold okF
    cases hF : isFact f.f0 f.f1 f.f2 f.f3 f.f4 f.f5 with
    | true =>
      rw [if_pos rfl]
      simp only [spec_PutFact.j0, Bool.not_true, Bool.false_eq_true, if_false]
      have := putLoop l f hl l [] [] false k (by simp) (by simp) (by omega)
      simpa using this
    | false =>
      rw [if_neg (by simp)]
      simp only [spec_PutFact.j0, Bool.not_false, if_true, l7Copy l hl, Option.bind_some]
  · rw [if_neg hS, if_neg hS]
    simp only [spec_PutFact.j0, if_true, l7Copy l hl, Option.bind_some]
theorem putS_skip (f : S55) (b : List S55) (a : List S55) (h : ∀ y ∈ a, bef y f = true) : putS f (a ++ b) false = a ++ putS f b false := by
  induction a with
  | nil => rfl
  | cons x r ih =>
    obtain ⟨h1, h2, h3⟩ := bef_not (h x (by simp))
    rw [List.cons_append, putS, if_neg (by rw [h1]; simp), Bool.false_or, h3, ih (fun y hy => h y (by simp [hy]))]
    simp [putOne, h3]
theorem putS_rest (f : S55) (r : List S55) (h : ∀ y ∈ r, bef f y = true) : putS f r true = r := by
  induction r with
  | nil => rfl
  | cons x r ih =>
    obtain ⟨_, h2, _⟩ := bef_not (h x (by simp))
    rw [putS, if_neg (by simp), Bool.true_or, ih (fun y hy => h y (by simp [hy]))]
    simp [putOne, h2]
theorem putIns (l a b : List S55) (f : S55) (hl : l.length ≤ 30) (he : l = a ++ b) (ha : ∀ y ∈ a, bef y f = true) (hb : putS f b false = f :: b) (k : Nat) : impl_PutFact.j3 (k + 1) l l (a.length : Int) false f.f0 f.f1 f.f2 f.f3 f.f4 f.f5 = some (putFin l (putS f l false)) := by
  have hla : l.length = a.length + b.length := by rw [he]; simp
  have hout : putS f l false = a ++ (f :: b) := by rw [he, putS_skip f b a ha, hb]
  have h2 : l.take (a.length : Int).toNat ++ [f] ++ l.drop (a.length : Int).toNat = putS f l false := by
    rw [hout, Int.toNat_natCast, he]
    simp
  have hlen : (putS f l false).length = l.length + 1 := by rw [hout]; simp; omega
  simp only [impl_PutFact.j3]
  rw [if_neg (by simp)]
  unfold putFin
  by_cases h : (l.length : Int) = 30
  · rw [if_pos h, if_pos (by omega)]
  · rw [if_neg h, if_neg (by omega)]
    have := h2
    simp only [impl_Fact.f]
    rw [if_pos ⟨by omega, by omega, rfl, by omega⟩, Option.bind_some]
    exact congrArg (fun z => some (z, true)) h2
theorem putLoop2 (l : List S55) (f : S55) (hS : store l = true) : ∀ (b a : List S55) (k : Nat), l = a ++ b → (∀ y ∈ a, bef y f = true) → b.length + 5 < k → impl_PutFact.l0 k l l (a.length : Int) f.f0 f.f1 f.f2 f.f3 f.f4 f.f5 = some (putFin l (putS f l false)) := by
  obtain ⟨_, hP, h30⟩ := store_pair l hS
  intro b
  induction b with
  | nil =>
    intro a k he ha hk
    obtain ⟨k, rfl⟩ : ∃ m, k = m + 1 + 1 + 1 := ⟨k - 3, by omega⟩
    have hla : l.length = a.length := by rw [he]; simp
    simp only [impl_PutFact.l0]
    rw [if_neg (by omega)]
    simp only [impl_PutFact.j2]
    rw [if_neg (by omega)]
    exact putIns l a [] f h30 he ha rfl k
  | cons x r ih =>
    intro a k he ha hk
    obtain ⟨k, rfl⟩ : ∃ m, k = m + 1 + 1 + 1 := ⟨k - 3, by omega⟩
    have hla : l.length = a.length + (r.length + 1) := by rw [he]; simp
    have hx : rd_T55 l (a.length : Int) = x := by rw [rdT55, he, getF_mid]
    have hw : wrap64 ((a.length : Int) + 1) = (((a ++ [x]).length : Nat) : Int) := by rw [List.length_append]; unfold wrap64; simp; omega
    have he' : l = (a ++ [x]) ++ r := by rw [he]; simp
    have hP' := hP
    rw [he, List.pairwise_append, List.pairwise_cons] at hP'
    rw [impl_PutFact.l0]
    simp only [hx, before2, Option.bind_some]
    rw [if_pos (by omega), if_pos (by omega)]
    by_cases h : bef x f = true
    · rw [if_pos h, hw]
      exact ih (a ++ [x]) (k + 1 + 1) he' (fun y hy => by rcases List.mem_append.1 hy with hy | hy; exact ha y hy; simp at hy; rw [hy]; exact h) (by simp only [List.length_cons] at hk; omega)
    · have h' : bef x f = false := by simpa using h
      rw [if_neg h]
      simp only [impl_PutFact.j2, hx, same2, Option.bind_some]
      rw [if_pos (by omega), if_pos (by omega)]
      cases hq : sam x f with
      | true =>
        obtain ⟨n1, n2, n3⟩ := sam_not hq
        have hrest : ∀ y ∈ r, bef f y = true := fun y hy => bef_sam n3 (hP'.2.1.1 y hy)
        have hout : putS f l false = a ++ putOne f x :: r := by rw [he, putS_skip f _ a ha, putS, if_neg (by rw [n2]; simp), Bool.false_or, n3, putS_rest f r hrest]
        have hlen : (putS f l false).length = l.length := by rw [hout, hla]; simp
        simp only [impl_PutFact.j3, hx, later2, Option.bind_some]
        have hF : putFin l (putS f l false) = (putS f l false, true) := if_neg (by omega)
        rw [if_pos trivial, if_pos (by omega), if_pos (by omega), hF]
        by_cases hL : lat f x = true
        · rw [if_pos hL, if_pos (by omega)]
          have : l.set (a.length : Int).toNat f = putS f l false := by
            rw [hout, putOne, if_pos n3, if_pos hL, Int.toNat_natCast, he, List.set_append_right _ _ (Nat.le_refl _), Nat.sub_self, List.set_cons_zero]
          exact congrArg (fun z => some (z, true)) this
        · rw [if_neg hL]
          have : l = putS f l false := by rw [hout, putOne, if_pos n3, if_neg hL, he]
          exact congrArg (fun z => some (z, true)) this
      | false =>
        have hfx := bef_else h' hq
        refine putIns l a (x :: r) f h30 he ha ?_ k
        obtain ⟨_, m2, _⟩ := bef_not hfx
        rw [putS, if_pos ⟨rfl, hfx⟩, putS_rest f r (fun y hy => bef_trans hfx (hP'.2.1.1 y hy))]
        simp [putOne, m2]
theorem put2 (l : List S55) (f : S55) (hl : l.length ≤ 40000000) (k : Nat) (hk : 4 * l.length + 20 < k) : impl_PutFact.f k l f.f0 f.f1 f.f2 f.f3 f.f4 f.f5 = some (putF l f) := by
  obtain ⟨k, rfl⟩ : ∃ m, k = m + 1 := ⟨k - 1, by omega⟩
  simp only [impl_PutFact.f, copyFacts l hl, store2 l (by omega) (k + 1) (by omega), fact2, Option.bind_some]
  unfold putF
  by_cases hS : store l = true
  · rw [if_pos hS, if_pos hS]
    unfold okF
    cases hF : isFact f.f0 f.f1 f.f2 f.f3 f.f4 f.f5 with
    | true =>
      rw [if_pos rfl]
      simp only [impl_PutFact.j0, Bool.not_true, Bool.false_eq_true, if_false]
      exact putLoop2 l f hS l [] k (by simp) (by simp) (by omega)
    | false =>
      rw [if_neg (by simp)]
      simp only [impl_PutFact.j0, Bool.not_false, if_true]
  · rw [if_neg hS, if_neg hS]
    simp only [impl_PutFact.j0, if_true]
theorem rdSt (l : List S76) (i : Nat) : rd_T76 l (i : Int) = l.getD i z76 := by
  unfold rd_T76
  rw [Int.toNat_natCast]
def bel (L : List S48) (x : S76) : Bool := believed L x.f0.f0 x.f0.f1 x.f0.f2 x.f0.f3 x.f0.f4 x.f0.f5 x.f1
def takeS (L : List S48) : List S76 → List S55 → Nat → List S55 × Nat
  | [], out, n => (out, n)
  | x :: r, out, n => if bel L x = true ∧ (putF out x.f0).2 = true then takeS L r (putF out x.f0).1 (n + 1) else takeS L r out n
theorem takeS_len (L : List S48) : ∀ (b : List S76) out n, (takeS L b out n).1.length ≤ out.length + 30 * b.length ∧ n ≤ (takeS L b out n).2 ∧ (takeS L b out n).2 ≤ n + b.length := by
  intro b
  induction b with
  | nil => intro out n; exact ⟨by simp [takeS], by simp [takeS], by simp [takeS]⟩
  | cons x r ih =>
    intro out n
    rw [takeS]
    split
    · have := ih (putF out x.f0).1 (n + 1)
      have h2 := putF_len out x.f0
      simp only [List.length_cons]
      omega
    · have := ih out n
      simp only [List.length_cons]
      omega
theorem takeLoop2 (L : List S48) (t : List S76) (hL : L.length ≤ 1048576) (hw : ∀ x ∈ L, x.f1.length ≤ 1048576) (ht : t.length ≤ 1048576) (B : Nat) (hB : 4 * (1048576 + 30 * t.length) + 20 ≤ B) (hB2 : 4000000 ≤ B) : ∀ (b a : List S76) (out : List S55) (n k : Nat), t = a ++ b → out.length ≤ 1048576 + 30 * a.length → n ≤ a.length → B + b.length < k → impl_TakeStated.l0 k L out (n : Int) t (t.length : Int) (a.length : Int) = some ((takeS L b out n).1, ((takeS L b out n).2 : Int)) := by
  intro b
  induction b with
  | nil =>
    intro a out n k he ho hn hk
    obtain ⟨k, rfl⟩ : ∃ m, k = m + 1 := ⟨k - 1, by omega⟩
    have hla : t.length = a.length := by rw [he]; simp
    rw [impl_TakeStated.l0, if_neg (by omega)]
    rfl
  | cons x r ih =>
    intro a out n k he ho hn hk
    obtain ⟨k, rfl⟩ : ∃ m, k = m + 1 := ⟨k - 1, by omega⟩
    have hla : t.length = a.length + (r.length + 1) := by rw [he]; simp
    simp only [List.length_cons] at hk
    have hx : rd_T76 t (a.length : Int) = x := by rw [rdSt, he, getD_get _ _ _ (by simp), List.getElem_append_right (Nat.le_refl _)]; simp
    have hk1 : 4 * out.length + 20 < k := by omega
    have hkb : 4000000 < k := by omega
    have hkr : B + r.length < k := by omega
    have ho2 : out.length ≤ 40000000 := by omega
    have he' : t = (a ++ [x]) ++ r := by rw [he]; simp
    have hal : (a ++ [x]).length = a.length + 1 := by simp
    have hn1 : n + 1 ≤ (a ++ [x]).length := by omega
    have ho1 : out.length ≤ 1048576 + 30 * (a ++ [x]).length := by omega
    have hn2 : n ≤ (a ++ [x]).length := by omega
    have hi1 : (a.length : Int) < (t.length : Int) := by omega
    have hi0 : (0 : Int) ≤ (a.length : Int) := by omega
    have hp : (putF out x.f0).1.length ≤ 1048576 + 30 * (a ++ [x]).length := Nat.le_trans (putF_len out x.f0) (by omega)
    have HBL := believed2 L x.f0.f0 x.f0.f1 x.f0.f2 x.f0.f3 x.f0.f4 x.f0.f5 x.f1 hL hw k hkb
    have hw1 : wrap64 ((a.length : Int) + 1) = (((a ++ [x]).length : Nat) : Int) := by rw [List.length_append]; unfold wrap64; simp; omega
    have hw2 : wrap64 ((n : Int) + 1) = ((n + 1 : Nat) : Int) := by clear hw1; unfold wrap64; omega
    rw [impl_TakeStated.l0]
    simp only [hx, hw1, hw2]
    rw [if_pos hi1, if_pos hi0, if_pos hi1, HBL, Option.bind_some, takeS]
    have I1 := ih (a ++ [x]) (putF out x.f0).1 (n + 1) k he' hp hn1 hkr
    have I2 := ih (a ++ [x]) out n k he' ho1 hn2 hkr
    by_cases hb : bel L x = true
    · have hb' := hb
      unfold bel at hb'
      rw [if_pos hb', put2 out x.f0 ho2 k hk1, Option.bind_some]
      by_cases hq : (putF out x.f0).2 = true
      · rw [if_pos hq, if_pos ⟨hb, hq⟩]; exact I1
      · rw [if_neg hq, if_neg (fun h => hq h.2)]; exact I2
    · have hb' := hb
      unfold bel at hb'
      rw [if_neg hb', if_neg (fun h => hb h.1)]; exact I2
theorem take2 (L : List S48) (out : List S55) (t : List S76) (hL : L.length ≤ 1048576) (hw : ∀ x ∈ L, x.f1.length ≤ 1048576) (ho : out.length ≤ 1048576) (ht : t.length ≤ 1048576) (k : Nat) (hk : 202000000 < k) : impl_TakeStated.f k L out t = some ((takeS L t out 0).1, ((takeS L t out 0).2 : Int)) := by
  unfold impl_TakeStated.f
  rw [copyFacts out (by omega), Option.bind_some]
  exact takeLoop2 L t hL hw ht 200000000 (by omega) (by omega) t [] out 0 k rfl (by omega) (by simp) (by omega)
theorem and255 (x : Int) : 0 ≤ Go.bits .and .i64 x 255 ∧ Go.bits .and .i64 x 255 ≤ 255 := by
  unfold Go.bits
  simp only
  have h : (BitVec.ofInt IntKind.i64.bits x &&& BitVec.ofInt IntKind.i64.bits 255).toNat ≤ 255 := by
    rw [BitVec.toNat_and]
    exact Nat.le_trans Nat.and_le_right (by decide)
  rw [IntKind.wrap_i64]
  omega
/-- What a draw gives: something, and the place is still one of the list. -/
def Drawn {α : Type} (l : List Int) (r : Option (α × Int × Int)) (Q : α → Prop) : Prop := ∃ v i h, r = some (v, i, h) ∧ Q v ∧ 0 ≤ i ∧ i ≤ (l.length : Int)
theorem dByte (l : List Int) (hl : l.length ≤ 1048576) (i h : Int) (h0 : 0 ≤ i) (h1 : i ≤ (l.length : Int)) : Drawn l (spec_l1Byte.f l i h) fun v => 0 ≤ v ∧ v ≤ 255 := by
  unfold spec_l1Byte.f
  by_cases c : i < (l.length : Int)
  · rw [if_pos c, if_pos h0, wrap_in (x := i + 1) (by omega) (by omega)]
    exact ⟨_, _, _, rfl, and255 _, by omega, by omega⟩
  · rw [if_neg c]
    exact ⟨_, _, _, rfl, and255 _, by omega, by omega⟩
theorem dBelow (l : List Int) (hl : l.length ≤ 1048576) (i h : Int) (h0 : 0 ≤ i) (h1 : i ≤ (l.length : Int)) (n : Int) (hn : 0 < n) : Drawn l (spec_l1Below.f l i h n) fun v => 0 ≤ v ∧ v < n := by
  unfold spec_l1Below.f
  rw [if_neg (by omega)]
  by_cases c : n ≤ 256
  · rw [if_pos c]
    obtain ⟨v, i1, s1, e, ⟨g0, _⟩, p0, p1⟩ := dByte l hl i h h0 h1
    rw [e, Option.bind_some, if_neg (by omega)]
    exact ⟨_, _, _, rfl, ⟨Int.tmod_nonneg _ g0, Int.tmod_lt_of_pos _ hn⟩, p0, p1⟩
  · rw [if_neg c]
    obtain ⟨v, i1, s1, e, ⟨g0, g1⟩, p0, p1⟩ := dByte l hl i h h0 h1
    obtain ⟨v2, i2, s2, e2, ⟨g2, g3⟩, p2, p3⟩ := dByte l hl i1 s1 p0 p1
    obtain ⟨v3, i3, s3, e3, ⟨g4, g5⟩, p4, p5⟩ := dByte l hl i2 s2 p2 p3
    simp only [e, e2, e3, Option.bind_some]
    rw [if_neg (by omega), wrap_in (x := v * 65536) (by omega) (by omega), wrap_in (x := v2 * 256) (by omega) (by omega), wrap_in (x := v * 65536 + v2 * 256) (by omega) (by omega), wrap_in (by omega) (by omega)]
    exact ⟨_, _, _, rfl, ⟨Int.tmod_nonneg _ (by omega), Int.tmod_lt_of_pos _ hn⟩, p4, p5⟩
theorem dOnce (l : List Int) (hl : l.length ≤ 1048576) (i h : Int) (h0 : 0 ≤ i) (h1 : i ≤ (l.length : Int)) (n : Int) (hn : 0 < n) : Drawn l (spec_l1Once.f l i h n) fun _ => True := by
  unfold spec_l1Once.f
  obtain ⟨v, i1, s1, e, _, p0, p1⟩ := dBelow l hl i h h0 h1 n hn
  rw [e, Option.bind_some]
  exact ⟨_, _, _, rfl, trivial, p0, p1⟩
theorem dInt (l : List Int) (hl : l.length ≤ 1048576) (i h : Int) (h0 : 0 ≤ i) (h1 : i ≤ (l.length : Int)) (c : List Int) (hc : 0 < c.length) : Drawn l (spec_l1Int.f l i h c) fun v => v ∈ c := by
  unfold spec_l1Int.f
  obtain ⟨v, i1, s1, e, ⟨g0, g1⟩, p0, p1⟩ := dBelow l hl i h h0 h1 (c.length : Int) (by omega)
  rw [e, Option.bind_some, if_pos g0, if_pos g1]
  refine ⟨_, _, _, rfl, ?_, p0, p1⟩
  unfold rd
  exact getD_mem c _ 0 (by omega)
def seedOf (l : List Int) : Nat → Int
  | 0 => wrap64 (193017 + (l.length : Int))
  | i + 1 => Go.bits .and .i64 (wrap64 ((wrap64 ((wrap64 (seedOf l i * 137)) + (wrap64 (l.getD i 0)))) + 11)) 1073741823
theorem new1 (l : List Int) (hl : l.length ≤ 1048576) (k : Nat) (hk : 1048577 < k) : spec_l1New.f k l = some (l, 0, seedOf l (min l.length 4000)) := by
  unfold spec_l1New.f
  refine run (fun k s i => spec_l1New.l0 k l s i) (seedOf l) (min l.length 4000) 0 _ ?_ ?_ k (by omega)
  · intro k i _ hi
    simp only [spec_l1New.l0, rd_nat]
    rw [if_pos (by omega), if_pos (by omega), if_pos (by omega), wrap_succ hi (by omega)]
    rfl
  · intro k _
    simp only [spec_l1New.l0]
    by_cases c : l.length < 4000
    · rw [Nat.min_eq_left (by omega), if_neg (by omega)]
    · rw [Nat.min_eq_right (by omega)]
      split
      · rw [if_neg (by omega)]
      · rfl
theorem dName (l : List Int) (hl : l.length ≤ 1048576) (i h : Int) (h0 : 0 ≤ i) (h1 : i ≤ (l.length : Int)) (a : Int) : Drawn l (spec_l5Name.f l i h a) fun _ => True := by
  unfold spec_l5Name.f
  obtain ⟨v, i1, s1, e, _, p0, p1⟩ := dBelow l hl i h h0 h1 3 (by omega)
  rw [e, Option.bind_some]
  exact ⟨_, _, _, rfl, trivial, p0, p1⟩
theorem dAny (l : List Int) (hl : l.length ≤ 1048576) (i h : Int) (h0 : 0 ≤ i) (h1 : i ≤ (l.length : Int)) : Drawn l (spec_l5Any.f l i h) fun _ => True := by
  unfold spec_l5Any.f
  obtain ⟨v, i1, s1, e, _, p0, p1⟩ := dOnce l hl i h h0 h1 6 (by omega)
  rw [e, Option.bind_some]
  by_cases c : v = true
  · rw [if_pos c]
    obtain ⟨v2, i2, s2, e2, _, p2, p3⟩ := dInt l hl i1 s1 p0 p1 [(-1), 9, 10, 49, 50, 19] (by simp)
    simp only [e2, Option.bind_some]
    exact ⟨_, _, _, rfl, trivial, p2, p3⟩
  · rw [if_neg c]
    obtain ⟨v2, i2, s2, e2, _, p2, p3⟩ := dBelow l hl i1 s1 p0 p1 4 (by omega)
    simp only [e2, Option.bind_some]
    obtain ⟨v3, i3, s3, e3, _, p4, p5⟩ := dName l hl i2 s2 p2 p3 (wrap64 (1 + v2))
    simp only [e3, Option.bind_some]
    exact ⟨_, _, _, rfl, trivial, p4, p5⟩
theorem dTime (l : List Int) (hl : l.length ≤ 1048576) (i h : Int) (h0 : 0 ≤ i) (h1 : i ≤ (l.length : Int)) : Drawn l (spec_l4Time.f l i h) fun _ => True := by
  unfold spec_l4Time.f
  obtain ⟨v, i1, s1, e, _, p0, p1⟩ := dOnce l hl i h h0 h1 8 (by omega)
  rw [e, Option.bind_some]
  by_cases c : v = true
  · rw [if_pos c]
    obtain ⟨v2, i2, s2, e2, _, p2, p3⟩ := dInt l hl i1 s1 p0 p1 [(-1), 0, 10000, 10001, 9223372036854775807, (-9223372036854775808)] (by simp)
    simp only [e2, Option.bind_some]
    exact ⟨_, _, _, rfl, trivial, p2, p3⟩
  · rw [if_neg c]
    obtain ⟨v2, i2, s2, e2, _, p2, p3⟩ := dBelow l hl i1 s1 p0 p1 40 (by omega)
    simp only [e2, Option.bind_some]
    exact ⟨_, _, _, rfl, trivial, p2, p3⟩
def DrawnF (l : List Int) (r : Option (Int × Int × Int × Int × Int × Int × Int × Int)) : Prop := ∃ a b c d e f i h, r = some (a, b, c, d, e, f, i, h) ∧ 0 ≤ i ∧ i ≤ (l.length : Int)
theorem dFact (l : List Int) (hl : l.length ≤ 1048576) (i h : Int) (h0 : 0 ≤ i) (h1 : i ≤ (l.length : Int)) : DrawnF l (spec_l6Fact.f l i h) := by
  unfold spec_l6Fact.f
  obtain ⟨v, i, h, e, _, h0, h1⟩ := dBelow l hl i h h0 h1 4 (by omega)
  simp only [e, Option.bind_some]
  clear e
  obtain ⟨v2, i, h, e, _, h0, h1⟩ := dBelow l hl i h h0 h1 3 (by omega)
  simp only [e, Option.bind_some]
  clear e
  obtain ⟨v3, i, h, e, _, h0, h1⟩ := dBelow l hl i h h0 h1 20 (by omega)
  simp only [e, Option.bind_some]
  clear e
  obtain ⟨v4, i, h, e, _, h0, h1⟩ := dBelow l hl i h h0 h1 30 (by omega)
  simp only [e, Option.bind_some]
  clear e
  generalize wrap64 (1 + v) = q
  by_cases c1 : q = 1
  · rw [if_pos c1]
    obtain ⟨v5, i, h, e, _, h0, h1⟩ := dName l hl i h h0 h1 1
    simp only [e, Option.bind_some]
    clear e
    obtain ⟨v6, i, h, e, _, h0, h1⟩ := dBelow l hl i h h0 h1 4 (by omega)
    simp only [e, Option.bind_some]
    exact ⟨_, _, _, _, _, _, _, _, rfl, h0, h1⟩
  rw [if_neg c1]
  by_cases c2 : q = 2
  · rw [if_pos c2]
    obtain ⟨v5, i, h, e, _, h0, h1⟩ := dName l hl i h h0 h1 1
    simp only [e, Option.bind_some]
    clear e
    obtain ⟨v6, i, h, e, _, h0, h1⟩ := dName l hl i h h0 h1 2
    simp only [e, Option.bind_some]
    exact ⟨_, _, _, _, _, _, _, _, rfl, h0, h1⟩
  rw [if_neg c2]
  by_cases c3 : q = 3
  · rw [if_pos c3]
    obtain ⟨v5, i, h, e, _, h0, h1⟩ := dName l hl i h h0 h1 2
    simp only [e, Option.bind_some]
    clear e
    obtain ⟨v6, i, h, e, _, h0, h1⟩ := dBelow l hl i h h0 h1 4 (by omega)
    simp only [e, Option.bind_some]
    exact ⟨_, _, _, _, _, _, _, _, rfl, h0, h1⟩
  rw [if_neg c3]
  obtain ⟨v5, i, h, e, _, h0, h1⟩ := dName l hl i h h0 h1 3
  simp only [e, Option.bind_some]
  clear e
  obtain ⟨v6, i, h, e, _, h0, h1⟩ := dBelow l hl i h h0 h1 4 (by omega)
  simp only [e, Option.bind_some]
  exact ⟨_, _, _, _, _, _, _, _, rfl, h0, h1⟩
theorem dAnyFact (l : List Int) (hl : l.length ≤ 1048576) (i h : Int) (h0 : 0 ≤ i) (h1 : i ≤ (l.length : Int)) : DrawnF l (spec_l6Any.f l i h) := by
  unfold spec_l6Any.f
  obtain ⟨a, b, c, d, x, f, i, h, e, h0, h1⟩ := dFact l hl i h h0 h1
  simp only [e, Option.bind_some]
  clear e
  obtain ⟨v, i, h, e, _, h0, h1⟩ := dBelow l hl i h h0 h1 12 (by omega)
  simp only [e, Option.bind_some]
  clear e
  by_cases c0 : v = 0
  · rw [if_pos c0]
    obtain ⟨v2, i, h, e, _, h0, h1⟩ := dBelow l hl i h h0 h1 6 (by omega)
    simp only [e, Option.bind_some]
    exact ⟨_, _, _, _, _, _, _, _, rfl, h0, h1⟩
  rw [if_neg c0]
  by_cases c1 : v = 1
  · rw [if_pos c1]
    obtain ⟨v2, i, h, e, _, h0, h1⟩ := dAny l hl i h h0 h1
    simp only [e, Option.bind_some]
    exact ⟨_, _, _, _, _, _, _, _, rfl, h0, h1⟩
  rw [if_neg c1]
  by_cases c2 : v = 2
  · rw [if_pos c2]
    obtain ⟨v2, i, h, e, _, h0, h1⟩ := dInt l hl i h h0 h1 [(-1), 3, 4, 5, 6, 20] (by simp)
    simp only [e, Option.bind_some]
    exact ⟨_, _, _, _, _, _, _, _, rfl, h0, h1⟩
  rw [if_neg c2]
  by_cases c3 : v = 3
  · rw [if_pos c3]
    obtain ⟨v2, i, h, e, _, h0, h1⟩ := dInt l hl i h h0 h1 [(-1), 9, 10] (by simp)
    simp only [e, Option.bind_some]
    exact ⟨_, _, _, _, _, _, _, _, rfl, h0, h1⟩
  rw [if_neg c3]
  by_cases c4 : v = 4
  · rw [if_pos c4]
    obtain ⟨v2, i, h, e, _, h0, h1⟩ := dTime l hl i h h0 h1
    simp only [e, Option.bind_some]
    exact ⟨_, _, _, _, _, _, _, _, rfl, h0, h1⟩
  rw [if_neg c4]
  by_cases c5 : v = 5
  · rw [if_pos c5]
    obtain ⟨v2, i, h, e, _, h0, h1⟩ := dTime l hl i h h0 h1
    simp only [e, Option.bind_some]
    exact ⟨_, _, _, _, _, _, _, _, rfl, h0, h1⟩
  rw [if_neg c5]
  exact ⟨_, _, _, _, _, _, _, _, rfl, h0, h1⟩
def ISS : List S48 := [⟨0, [1, 2], 101⟩, ⟨1, [3, 4], 102⟩, ⟨2, [1, 2, 3, 4], 103⟩]
theorem iss1 : spec_l8Issuers.f = some ISS := rfl
theorem ISS_w (x : S48) (h : x ∈ ISS) : x.f1.length ≤ 4 := by
  unfold ISS at h
  simp only [List.mem_cons, List.not_mem_nil, or_false] at h
  rcases h with rfl | rfl | rfl <;> decide
theorem ISS_at (v : Int) (h0 : 0 ≤ v) (h1 : v < 3) : ((rd_T48 ISS v).f1).length ≤ 4 := by
  obtain ⟨n, rfl⟩ : ∃ n : Nat, v = (n : Int) := ⟨v.toNat, by omega⟩
  rw [rdIb]
  exact ISS_w _ (getD_mem _ _ _ (show n < 3 by omega))
def DrawnS (l : List Int) (r : Option (Int × Int × Int × Int × Int × Int × Int × Int × Int)) : Prop := ∃ a b c d e f m i h, r = some (a, b, c, d, e, f, m, i, h) ∧ 0 ≤ i ∧ i ≤ (l.length : Int)
theorem dStated (l : List Int) (hl : l.length ≤ 1048576) (i h : Int) (h0 : 0 ≤ i) (h1 : i ≤ (l.length : Int)) (k : Nat) (hk : 2097300 < k) : DrawnS l (spec_l8Stated.f k l i h) := by
  unfold spec_l8Stated.f
  obtain ⟨a, b, c, x, y, z, i, h, e, h0, h1⟩ := dFact l hl i h h0 h1
  simp only [e, iss1, Option.bind_some]
  clear e
  obtain ⟨v, i, h, e, ⟨g0, g1⟩, h0, h1⟩ := dBelow l hl i h h0 h1 3 (by omega)
  simp only [e, Option.bind_some]
  clear e
  rw [if_pos g0, if_pos (show v < (ISS.length : Int) from g1), state1 _ _ _ _ _ _ _ _ _ (Nat.le_trans (ISS_at v g0 g1) (by omega)) k hk]
  generalize stateF _ _ _ _ _ _ _ _ = R
  obtain ⟨r0, r1, r2, r3, r4, r5, r6, r7⟩ := R
  obtain ⟨v2, i, h, e, _, h0, h1⟩ := dBelow l hl i h h0 h1 8 (by omega)
  simp only [e, Option.bind_some]
  clear e
  by_cases c0 : v2 = 0
  · rw [if_pos c0]
    exact ⟨_, _, _, _, _, _, _, _, _, rfl, h0, h1⟩
  rw [if_neg c0]
  by_cases c1 : v2 = 1
  · rw [if_pos c1]
    exact ⟨_, _, _, _, _, _, _, _, _, rfl, h0, h1⟩
  rw [if_neg c1]
  by_cases c2 : v2 = 2
  · rw [if_pos c2]
    obtain ⟨v3, i, h, e, _, h0, h1⟩ := dBelow l hl i h h0 h1 4 (by omega)
    simp only [e, Option.bind_some]
    exact ⟨_, _, _, _, _, _, _, _, _, rfl, h0, h1⟩
  rw [if_neg c2]
  exact ⟨_, _, _, _, _, _, _, _, _, rfl, h0, h1⟩
theorem dIsIssuer (l : List Int) (hl : l.length ≤ 1048576) (k : Nat) (hk : 1048577 < k) : ∃ a L c, spec_DrawIsIssuer.f k l = some (a, L, c) ∧ L.length ≤ 5 := by
  unfold spec_DrawIsIssuer.f
  rw [new1 l hl k hk]
  simp only [iss1, Option.bind_some]
  generalize seedOf l (min l.length 4000) = h
  obtain ⟨v, i, h, e, ⟨g0, g1⟩, h0, h1⟩ := dBelow l hl 0 h (by omega) (by omega) 3 (by omega)
  simp only [e, Option.bind_some]
  clear e
  rw [if_pos g0, if_pos (show v < (ISS.length : Int) from g1)]
  have hv := ISS_at v g0 g1
  generalize rd_T48 ISS v = X at hv
  obtain ⟨v2, i, h, e, _, h0, h1⟩ := dBelow l hl i h h0 h1 6 (by omega)
  simp only [e, Option.bind_some]
  clear e
  by_cases c0 : v2 = 0
  · rw [if_pos c0]
    obtain ⟨v3, i, h, e, _, h0, h1⟩ := dInt l hl i h h0 h1 [-1, 10] (by simp)
    simp only [e, Option.bind_some]
    exact ⟨_, _, _, rfl, by omega⟩
  rw [if_neg c0]
  by_cases c1 : v2 = 1
  · rw [if_pos c1, if_pos (by simp; omega)]
    obtain ⟨v3, i, h, e, _, h0, h1⟩ := dBelow l hl i h h0 h1 6 (by omega)
    simp only [e, Option.bind_some]
    rw [if_pos (by simp; omega)]
    exact ⟨_, _, _, rfl, by simp; omega⟩
  rw [if_neg c1]
  by_cases c2 : v2 = 2
  · rw [if_pos c2]
    obtain ⟨v3, i, h, e, _, h0, h1⟩ := dInt l hl i h h0 h1 [0, -1] (by simp)
    simp only [e, Option.bind_some]
    exact ⟨_, _, _, rfl, by omega⟩
  rw [if_neg c2]
  exact ⟨_, _, _, rfl, by omega⟩
theorem dStateFact (l : List Int) (hl : l.length ≤ 1048576) (k : Nat) (hk : 1048577 < k) : ∃ a L c f0 f1 f2 f3 f4 f5, spec_DrawStateFact.f k l = some (a, L, c, f0, f1, f2, f3, f4, f5) ∧ L.length ≤ 5 := by
  unfold spec_DrawStateFact.f
  obtain ⟨a, L, c, e, hL⟩ := dIsIssuer l hl k hk
  rw [new1 l hl k hk]
  simp only [e, Option.bind_some]
  generalize seedOf l (min l.length 4000) = h
  obtain ⟨f0, f1, f2, f3, f4, f5, i, h, e, _, _⟩ := dAnyFact l hl 0 h (by omega) (by omega)
  simp only [e, Option.bind_some]
  exact ⟨_, _, _, _, _, _, _, _, _, rfl, hL⟩
theorem dIsBelieved (l : List Int) (hl : l.length ≤ 1048576) (k : Nat) (hk : 2097300 < k) : ∃ f0 f1 f2 f3 f4 f5 m, spec_DrawIsBelieved.f k l = some (ISS, f0, f1, f2, f3, f4, f5, m) := by
  unfold spec_DrawIsBelieved.f
  rw [new1 l hl k (by omega)]
  simp only [iss1, Option.bind_some]
  generalize seedOf l (min l.length 4000) = h
  obtain ⟨f0, f1, f2, f3, f4, f5, m, i, h, e, _, _⟩ := dStated l hl 0 h (by omega) (by omega) k hk
  simp only [e, Option.bind_some]
  exact ⟨_, _, _, _, _, _, _, rfl⟩
theorem store_loop (l : List Int) (hl : l.length ≤ 1048576) (d : Nat) : ∀ (out : List S55) (k : Nat) (i h : Int), out.length + 30 * d ≤ 300 → 0 ≤ i → i ≤ (l.length : Int) → d + 3000 < k → Drawn l (spec_l7Store.l0 k out (d : Int) l i h) fun v => v.length ≤ 300 := by
  induction d with
  | zero =>
    intro out k i h ho h0 h1 hk
    obtain ⟨k, rfl⟩ : ∃ m, k = m + 1 := ⟨k - 1, by omega⟩
    simp only [spec_l7Store.l0]
    rw [if_neg (by omega)]
    exact ⟨_, _, _, rfl, by omega, h0, h1⟩
  | succ d ih =>
    intro out k i h ho h0 h1 hk
    obtain ⟨k, rfl⟩ : ∃ m, k = m + 1 := ⟨k - 1, by omega⟩
    simp only [spec_l7Store.l0]
    rw [if_pos (by omega)]
    obtain ⟨a, b, c, x, y, z, i, h, e, h0, h1⟩ := dFact l hl i h h0 h1
    simp only [e, Option.bind_some]
    clear e
    have e := put1 out ⟨a, b, c, x, y, z⟩ (by omega) k (by omega)
    have hq := putF_len out ⟨a, b, c, x, y, z⟩
    generalize putF out ⟨a, b, c, x, y, z⟩ = R at e hq
    obtain ⟨o, q⟩ := R
    simp only at e hq
    rw [e]
    simp only [Option.bind_some]
    clear e
    rw [wrap_in (x := ((d + 1 : Nat) : Int) - 1) (by omega) (by omega), show ((d + 1 : Nat) : Int) - 1 = (d : Int) by omega]
    exact ih o k i h (by omega) h0 h1 (by omega)
theorem dStore (l : List Int) (hl : l.length ≤ 1048576) (i h : Int) (h0 : 0 ≤ i) (h1 : i ≤ (l.length : Int)) (k : Nat) (hk : 4000 < k) : Drawn l (spec_l7Store.f k l i h) fun v => v.length ≤ 300 := by
  unfold spec_l7Store.f
  obtain ⟨v, i, h, e, ⟨g0, g1⟩, h0, h1⟩ := dBelow l hl i h h0 h1 10 (by omega)
  simp only [e, Option.bind_some]
  obtain ⟨n, rfl⟩ : ∃ n : Nat, v = (n : Int) := ⟨v.toNat, by omega⟩
  exact store_loop l hl n [] k i h (by simp; omega) h0 h1 (by omega)
theorem take_loop (l : List Int) (hl : l.length ≤ 1048576) (s : List S55) (d : Nat) : ∀ (out : List S76) (k : Nat) (i h : Int), out.length + d ≤ 6 → 0 ≤ i → i ≤ (l.length : Int) → d + 2097300 < k → ∃ t, spec_DrawTakeStated.l0 k s out (d : Int) l i h = some (ISS, s, t) ∧ t.length ≤ 6 := by
  induction d with
  | zero =>
    intro out k i h ho h0 h1 hk
    obtain ⟨k, rfl⟩ : ∃ m, k = m + 1 := ⟨k - 1, by omega⟩
    simp only [spec_DrawTakeStated.l0, iss1, Option.bind_some]
    rw [if_neg (by omega)]
    exact ⟨_, rfl, by omega⟩
  | succ d ih =>
    intro out k i h ho h0 h1 hk
    obtain ⟨k, rfl⟩ : ∃ m, k = m + 1 := ⟨k - 1, by omega⟩
    simp only [spec_DrawTakeStated.l0]
    rw [if_pos (by omega)]
    obtain ⟨a, b, c, x, y, z, m, i, h, e, h0, h1⟩ := dStated l hl i h h0 h1 k (by omega)
    simp only [e, Option.bind_some]
    clear e
    rw [if_pos (by omega), wrap_in (x := ((d + 1 : Nat) : Int) - 1) (by omega) (by omega), show ((d + 1 : Nat) : Int) - 1 = (d : Int) by omega]
    exact ih _ k i h (by simp; omega) h0 h1 (by omega)
theorem dTakeStated (l : List Int) (hl : l.length ≤ 1048576) (k : Nat) (hk : 3000000 < k) : ∃ s t, spec_DrawTakeStated.f k l = some (ISS, s, t) ∧ s.length ≤ 300 ∧ t.length ≤ 6 := by
  unfold spec_DrawTakeStated.f
  rw [new1 l hl k (by omega)]
  simp only [Option.bind_some]
  generalize seedOf l (min l.length 4000) = h
  obtain ⟨s, i, h, e, hs, h0, h1⟩ := dStore l hl 0 h (by omega) (by omega) k (by omega)
  simp only [e, Option.bind_some]
  clear e
  obtain ⟨v, i, h, e, ⟨g0, g1⟩, h0, h1⟩ := dBelow l hl i h h0 h1 6 (by omega)
  simp only [e, Option.bind_some]
  obtain ⟨n, rfl⟩ : ∃ n : Nat, v = (n : Int) := ⟨v.toNat, by omega⟩
  obtain ⟨t, e, ht⟩ := take_loop l hl s n [] k i h (by simp; omega) h0 h1 (by omega)
  exact ⟨s, t, e, hs, ht⟩
theorem md_eq (v : Int) : md v = v % 2147483647 := by
  unfold md
  have h1 : -2147483647 < Int.tmod v 2147483647 := Int.lt_tmod_of_pos v (by omega)
  have h2 : Int.tmod v 2147483647 < 2147483647 := Int.tmod_lt_of_pos v (by omega)
  rw [wrap_in (by omega) (by omega), Int.tmod_eq_emod_of_nonneg (by omega)]
  have h3 := Int.mul_tdiv_add_tmod v 2147483647
  omega
theorem hstep_eq (d v : Int) (h0 : 0 ≤ d) (h1 : d < 2147483647) : hstep d v = (d * 1000003 + v + 13) % 2147483647 := by
  unfold hstep
  have g := md_eq v
  have g0 : 0 ≤ md v := by rw [g]; exact Int.emod_nonneg v (by omega)
  have g1 : md v < 2147483647 := by rw [g]; exact Int.emod_lt_of_pos v (by omega)
  rw [wrap_in (x := d * 1000003) (by omega) (by omega), wrap_in (x := d * 1000003 + md v) (by omega) (by omega), wrap_in (by omega) (by omega), Int.tmod_eq_emod_of_nonneg (by omega), g]
  omega
theorem hstep_in (d v : Int) (h0 : 0 ≤ d) (h1 : d < 2147483647) : 0 ≤ hstep d v ∧ hstep d v < 2147483647 := by
  rw [hstep_eq d v h0 h1]
  omega
theorem mul_zero_of (z : Int) (h : z * 1000003 % 2147483647 = 0) (g1 : -2147483647 < z) (g2 : z < 2147483647) : z = 0 := by
  have h5 : (z * 1000003 * 1523789695) % 2147483647 = 0 := by
    rw [Int.mul_emod, h, Int.zero_mul, Int.zero_emod]
  rw [Int.mul_assoc, show (1000003 * 1523789695 : Int) = 1 + 709572 * 2147483647 by decide, Int.mul_add, Int.mul_one, ← Int.mul_assoc, Int.add_mul_emod_self_right] at h5
  omega
theorem hstep_inj (d e v : Int) (h0 : 0 ≤ d) (h1 : d < 2147483647) (h2 : 0 ≤ e) (h3 : e < 2147483647) (h : hstep d v = hstep e v) : d = e := by
  rw [hstep_eq d v h0 h1, hstep_eq e v h2 h3] at h
  have h3' := Int.emod_eq_emod_iff_emod_sub_eq_zero.1 h
  rw [show d * 1000003 + v + 13 - (e * 1000003 + v + 13) = (d - e) * 1000003 by rw [Int.sub_mul]; omega] at h3'
  clear h
  have g1 : -2147483647 < d - e := by clear h3'; omega
  have g2 : d - e < 2147483647 := by clear h3'; omega
  have g : d - e = 0 := by
    generalize d - e = z at h3' g1 g2 ⊢
    exact mul_zero_of z h3' g1 g2
  clear h3' g1 g2
  omega
theorem hash_cons_ne (l : List Int) : ∀ d e : Int, 0 ≤ d → d < 2147483647 → 0 ≤ e → e < 2147483647 → l.foldl hstep d = l.foldl hstep e → d = e := by
  induction l with
  | nil => intro d e _ _ _ _ h; exact h
  | cons v l ih =>
    intro d e h0 h1 h2 h3 h
    have g1 := hstep_in d v h0 h1
    have g2 := hstep_in e v h2 h3
    exact hstep_inj d e v h0 h1 h2 h3 (ih _ _ g1.1 g1.2 g2.1 g2.2 h)
theorem keyed_first (s a b : Int) (l : List Int) (h : keyed s (a :: l) = keyed s (b :: l)) : a % 2147483647 = b % 2147483647 := by
  unfold keyed hash at h
  simp only [List.cons_append, List.nil_append, List.foldl_cons] at h
  have g := hstep_in 11 s (by omega) (by omega)
  have g1 := hstep_in _ a g.1 g.2
  have g2 := hstep_in _ b g.1 g.2
  have e := hash_cons_ne (l ++ [s]) _ _ g1.1 g1.2 g2.1 g2.2 h
  rw [hstep_eq _ a g.1 g.2, hstep_eq _ b g.1 g.2] at e
  omega
theorem containsL (l : List Int) (n : Int) (hl : l.length ≤ 1099511627776) (k : Nat) (hk : l.length < k) : laws_contains.f k l n = some (has l n) := by
  unfold laws_contains.f has
  rw [findLoop (fun k i => laws_contains.l0 k l n i) l.length 0 (fun i => l.getD i 0 == n) (fun _ => true) false ?_ ?_ ?_ k (by omega)]
  · congr 1
    cases hf : (List.range l.length).find? fun i => l.getD i 0 == n with
    | none =>
      rw [List.find?_eq_none] at hf
      rw [eq_comm, show Option.elim none false (fun _ : Nat => true) = false from rfl, List.any_eq_false]
      exact hf
    | some i =>
      rw [List.find?_range_eq_some] at hf
      rw [eq_comm, show Option.elim (some i) false (fun _ : Nat => true) = true from rfl, List.any_eq_true]
      exact ⟨i, hf.2.1, hf.1⟩
  · intro k i _ hi hp
    have hp' : ¬ l.getD i 0 = n := by simpa using hp
    simp only [laws_contains.l0, rd_nat]
    rw [if_pos (by omega), if_pos (by omega), if_neg hp', wrap_succ hi hl]
  · intro k i _ hi hp
    have hp' : l.getD i 0 = n := by simpa using hp
    simp only [laws_contains.l0, rd_nat]
    rw [if_pos (by omega), if_pos (by omega), if_pos hp']
  · intro k _
    simp only [laws_contains.l0]
    rw [if_neg (by omega)]
theorem hash_in (l : List Int) : ∀ d : Int, 0 ≤ d → d < 2147483647 → 0 ≤ l.foldl hstep d ∧ l.foldl hstep d < 2147483647 := by
  induction l with
  | nil => intro d h0 h1; exact ⟨h0, h1⟩
  | cons v l ih =>
    intro d h0 h1
    obtain ⟨g0, g1⟩ := hstep_in d v h0 h1
    exact ih _ g0 g1
theorem keyed_at (s a b : Int) (p q : List Int) (h : keyed s (p ++ a :: q) = keyed s (p ++ b :: q)) : a % 2147483647 = b % 2147483647 := by
  unfold keyed hash at h
  simp only [List.cons_append, List.nil_append, List.append_assoc, List.foldl_cons, List.foldl_append] at h
  have g := hstep_in 11 s (by omega) (by omega)
  have g' := hash_in p _ g.1 g.2
  generalize p.foldl hstep (hstep 11 s) = d at g' h
  have g1 := hstep_in _ a g'.1 g'.2
  have g2 := hstep_in _ b g'.1 g'.2
  have e := hash_cons_ne (q ++ [s]) _ _ g1.1 g1.2 g2.1 g2.2 (by simpa only [List.foldl_append, List.foldl_cons, List.foldl_nil] using h)
  rw [hstep_eq _ a g'.1 g'.2, hstep_eq _ b g'.1 g'.2] at e
  omega
theorem state_ok (a : Int) (l : List Int) (c f0 f1 f2 f4 f5 : Int) (h : (stateF a l c f0 f1 f2 f4 f5).2.2.2.2.2.2.2 = true) : isIssuer a l c = true ∧ isFact f0 f1 f2 a f4 f5 = true ∧ has l f0 = true ∧ stateF a l c f0 f1 f2 f4 f5 = (f0, f1, f2, a, f4, f5, keyed c [f0, f1, f2, a, f4, f5], true) := by
  unfold stateF at h ⊢
  split at h
  · rename_i g
    rw [if_pos g]
    simp only [Bool.and_eq_true] at g
    exact ⟨g.1, g.2.1, g.2.2, rfl⟩
  · cases h
theorem bel_ok (l : List S48) (f0 f1 f2 f3 f4 f5 m : Int) (h : believed l f0 f1 f2 f3 f4 f5 m = true) : ¬ findIssuer l f3 < 0 ∧ isFact f0 f1 f2 (l.getD (findIssuer l f3).toNat z48).f0 f4 f5 = true ∧ keyed (l.getD (findIssuer l f3).toNat z48).f2 [f0, f1, f2, (l.getD (findIssuer l f3).toNat z48).f0, f4, f5] = m := by
  unfold believed at h
  split at h
  · cases h
  rename_i hn
  refine ⟨hn, ?_⟩
  generalize l.getD (findIssuer l f3).toNat z48 = x at h
  simp only [Bool.and_eq_true] at h
  obtain ⟨h1, _, h3⟩ := h
  obtain ⟨_, g2, _, g4⟩ := state_ok _ _ _ _ _ _ _ _ h1
  rw [g4] at h3
  exact ⟨g2, by simpa using h3⟩
theorem bel_self (a : Int) (l : List Int) (c f0 f1 f2 f4 f5 : Int) (h : (stateF a l c f0 f1 f2 f4 f5).2.2.2.2.2.2.2 = true) : believed [⟨a, l, c⟩] f0 f1 f2 a f4 f5 (keyed c [f0, f1, f2, a, f4, f5]) = true := by
  obtain ⟨_, _, _, g4⟩ := state_ok _ _ _ _ _ _ _ _ h
  have hf : findIssuer [(⟨a, l, c⟩ : S48)] a = 0 := by
    unfold findIssuer
    simp [List.range_succ]
  unfold believed
  rw [hf, if_neg (by omega)]
  simp only [Int.toNat_zero, List.getD_cons_zero, g4, beq_self_eq_true, Bool.and_self]
theorem time_in {a b c d e f : Int} (h : isFact a b c d e f = true) : 0 ≤ e ∧ e ≤ 10000 ∧ 0 ≤ c ∧ c ≤ 49 := by
  unfold isFact at h
  simp only [Bool.and_eq_true] at h
  obtain ⟨hc, _, he, _, _⟩ := h
  have ke := of_decide_eq_true (show decide (0 ≤ e ∧ e ≤ 10000) = true from he)
  refine ⟨ke.1, ke.2, ?_⟩
  unfold claimOk at hc
  split at hc
  · simp only [Bool.and_eq_true, decide_eq_true_eq] at hc; omega
  split at hc
  · simp only [Bool.and_eq_true, hasKind, decide_eq_true_eq] at hc; omega
  split at hc
  · simp only [Bool.and_eq_true, decide_eq_true_eq] at hc; omega
  split at hc
  · simp only [Bool.and_eq_true, decide_eq_true_eq] at hc; omega
  · cases hc
theorem bel_at (l : List S48) (f0 f1 f2 f3 f4 f5 m : Int) (h : believed l f0 f1 f2 f3 f4 f5 m = true) : believed l f0 f1 f2 f3 (wrap64 (f4 + 1)) f5 m = false := by
  obtain ⟨_, h2, h3⟩ := bel_ok _ _ _ _ _ _ _ _ h
  obtain ⟨t0, t1, _, _⟩ := time_in h2
  rw [← Bool.not_eq_true]
  intro g
  obtain ⟨_, _, g3⟩ := bel_ok _ _ _ _ _ _ _ _ g
  rw [wrap_in (by omega) (by omega)] at g3
  have e := keyed_at _ f4 (f4 + 1) [f0, f1, f2, (l.getD (findIssuer l f3).toNat z48).f0] [f5] (h3.trans g3.symm)
  clear h3 g3 g h h2
  omega
theorem bel_val (l : List S48) (f0 f1 f2 f3 f4 f5 m : Int) (h : believed l f0 f1 f2 f3 f4 f5 m = true) : believed l f0 f1 (wrap64 (f2 + 1)) f3 f4 f5 m = false := by
  obtain ⟨_, h2, h3⟩ := bel_ok _ _ _ _ _ _ _ _ h
  obtain ⟨_, _, t0, t1⟩ := time_in h2
  rw [← Bool.not_eq_true]
  intro g
  obtain ⟨_, _, g3⟩ := bel_ok _ _ _ _ _ _ _ _ g
  rw [wrap_in (by omega) (by omega)] at g3
  have e := keyed_at _ f2 (f2 + 1) [f0, f1] [(l.getD (findIssuer l f3).toNat z48).f0, f4, f5] (h3.trans g3.symm)
  clear h3 g3 g h h2
  omega
theorem one_sam {f x : S55} (h : sam f x = true) (y : S55) : (bef (putOne f x) y = bef x y) ∧ (bef y (putOne f x) = bef y x) := by
  unfold putOne
  rw [if_pos h]
  split
  · rw [sam_iff] at h
    unfold bef
    rw [h.1, h.2.1, h.2.2.1, h.2.2.2]
    exact ⟨rfl, rfl⟩
  · exact ⟨rfl, rfl⟩
theorem one_bef (f x y : S55) : (bef (putOne f x) y = bef x y) ∧ (bef y (putOne f x) = bef y x) := by
  by_cases h : sam f x = true
  · exact one_sam h y
  · unfold putOne
    rw [if_neg h]
    exact ⟨rfl, rfl⟩
theorem one_ok (f x : S55) (hf : okF f = true) (hx : okF x = true) : okF (putOne f x) = true := by
  unfold putOne
  split
  · split
    · exact hf
    · exact hx
  · exact hx
theorem putS_ok (f : S55) (hf : okF f = true) (l : List S55) : ∀ seen, (∀ x ∈ l, okF x = true) → ∀ x ∈ putS f l seen, okF x = true := by
  induction l with
  | nil =>
    intro seen _ x hx
    rw [putS] at hx
    split at hx
    · simp at hx
    · rw [List.mem_singleton] at hx; rw [hx]; exact hf
  | cons y r ih =>
    intro seen h x hx
    have hy := one_ok f y hf (h y (by simp))
    have hr := fun s => ih s (fun z hz => h z (by simp [hz]))
    rw [putS] at hx
    split at hx
    · rcases List.mem_cons.1 hx with rfl | hx
      · exact hf
      rcases List.mem_cons.1 hx with rfl | hx
      · exact hy
      · exact hr _ x hx
    · rcases List.mem_cons.1 hx with rfl | hx
      · exact hy
      · exact hr _ x hx
/-- What stands ahead of a list's elements, and of the new one if it is still to come, stands ahead of all. -/
theorem putS_low (f a : S55) (l : List S55) : ∀ seen, (∀ x ∈ l, bef a x = true) → (seen = false → bef a f = true) → ∀ x ∈ putS f l seen, bef a x = true := by
  induction l with
  | nil =>
    intro seen _ hs x hx
    rw [putS] at hx
    split at hx
    · simp at hx
    · rename_i c; rw [List.mem_singleton] at hx; rw [hx]; exact hs (by simpa using c)
  | cons y r ih =>
    intro seen h hs x hx
    have hy := ((one_bef f y a).2).trans (h y (by simp))
    rw [putS] at hx
    split at hx
    · rename_i c
      rcases List.mem_cons.1 hx with rfl | hx
      · exact hs c.1
      rcases List.mem_cons.1 hx with rfl | hx
      · exact hy
      · exact ih true (fun z hz => h z (by simp [hz])) (fun e => by cases e) x hx
    · rcases List.mem_cons.1 hx with rfl | hx
      · exact hy
      · refine ih _ (fun z hz => h z (by simp [hz])) (fun e => ?_) x hx
        have : seen = false := by cases seen <;> simp_all
        exact hs this
theorem putS_pair (f : S55) (l : List S55) : ∀ seen, l.Pairwise (fun x y => bef x y = true) → (seen = true → ∀ x ∈ l, bef f x = true) → (putS f l seen).Pairwise (fun x y => bef x y = true) := by
  induction l with
  | nil =>
    intro seen _ _
    rw [putS]
    split <;> simp
  | cons y r ih =>
    intro seen h hs
    rw [List.pairwise_cons] at h
    rw [putS]
    split
    · rename_i c
      have hr : ∀ x ∈ r, bef f x = true := fun x hx => bef_trans c.2 (h.1 x hx)
      refine List.pairwise_cons.2 ⟨fun x hx => ?_, List.pairwise_cons.2 ⟨fun x hx => ?_, ih true h.2 (fun _ => hr)⟩⟩
      · rcases List.mem_cons.1 hx with rfl | hx
        · exact ((one_bef f y f).2).trans c.2
        · exact putS_low f f r true hr (fun e => by cases e) x hx
      · rw [(one_bef f y x).1]
        exact putS_low f y r true h.1 (fun e => by cases e) x hx
    · rename_i c
      have hlow : seen = false → sam f y = false → bef y f = true := by
        intro e1 e2
        have : bef f y = false := by
          rw [← Bool.not_eq_true]; exact fun e3 => c ⟨e1, e3⟩
        exact bef_else this e2
      refine List.pairwise_cons.2 ⟨fun x hx => ?_, ih _ h.2 (fun e x hx => ?_)⟩
      · rw [(one_bef f y x).1]
        refine putS_low f y r _ h.1 (fun e => ?_) x hx
        rw [Bool.or_eq_false_iff] at e
        exact hlow e.1 e.2
      · rw [Bool.or_eq_true] at e
        rcases e with e | e
        · exact hs e x (by simp [hx])
        · exact bef_sam e (h.1 x hx)
theorem putF_store (l : List S55) (f : S55) (h : store l = true) : store (putF l f).1 = true := by
  unfold putF
  rw [if_pos h]
  split
  · rename_i hf
    unfold putFin
    split
    · exact h
    · rename_i c
      obtain ⟨h1, h2, h3⟩ := store_pair l h
      exact pair_store _ (putS_ok f hf l false h1) (putS_pair f l false h2 (fun e => by cases e)) (show (putS f l false).length ≤ 30 by omega)
  · exact h
theorem takeS_store (L : List S48) : ∀ (b : List S76) out n, store out = true → store (takeS L b out n).1 = true := by
  intro b
  induction b with
  | nil => intro out n h; exact h
  | cons x r ih =>
    intro out n h
    rw [takeS]
    split
    · exact ih _ _ (putF_store out x.f0 h)
    · exact ih _ _ h
theorem issEnd (l : List Int) (hl : l.length ≤ 1048576) (k : Nat) (hk : 250000000 < k) : laws_FnIssuers.j1 k l = some true := by
  obtain ⟨k, rfl⟩ : ∃ m, k = m + 1 := ⟨k - 1, by omega⟩
  obtain ⟨s, t, e, hs, ht⟩ := dTakeStated l hl k (by omega)
  have hw : ∀ x ∈ ISS, x.f1.length ≤ 1048576 := fun x hx => Nat.le_trans (ISS_w x hx) (by omega)
  have hI : ISS.length ≤ 1048576 := by decide
  have Q := take2 ISS s t hI hw (by omega) (by omega) k (by omega)
  obtain ⟨n1, n2, n3⟩ := takeS_len ISS t s 0
  have hst := takeS_store ISS t s 0
  generalize takeS ISS t s 0 = R at Q n1 n2 n3 hst
  obtain ⟨R, n⟩ := R
  simp only at Q n1 n2 n3 hst
  simp only [laws_FnIssuers.j1, e, Q, Option.bind_some]
  rw [if_pos (by omega), if_pos (by omega), store2 s (by omega) k (by omega), Option.bind_some]
  by_cases h : store s = true
  · rw [if_pos h, store2 R (by omega) k (by omega), Option.bind_some, hst h]
  · rw [if_neg h]
theorem issMid (l : List Int) (hl : l.length ≤ 1048576) (f0 f1 f2 f3 f4 f5 m : Int) (k : Nat) (hk : 260000000 < k) : laws_FnIssuers.j0 k l ISS false f0 f1 f2 f3 f4 f5 m = some true := by
  obtain ⟨k, rfl⟩ : ∃ m, k = m + 1 := ⟨k - 1, by omega⟩
  have hw : ∀ x ∈ ISS, x.f1.length ≤ 1048576 := fun x hx => Nat.le_trans (ISS_w x hx) (by omega)
  have hI : ISS.length ≤ 1048576 := by decide
  have HB := fun (a b c d e f g : Int) => believed2 ISS a b c d e f g hI hw k (by omega)
  simp only [laws_FnIssuers.j0, HB, findIssuer2, issEnd l hl k (by omega), Option.bind_some]
  rw [if_neg (by simp)]
  by_cases h : believed ISS f0 f1 f2 f3 f4 f5 m = true
  · rw [if_pos h, bel_at _ _ _ _ _ _ _ _ h, if_neg (by simp), bel_val _ _ _ _ _ _ _ _ h, if_neg (by simp), if_neg (bel_ok _ _ _ _ _ _ _ _ h).1]
  · rw [if_neg h]
theorem FnIssuers : laws_FnIssuers.Pure := by
  intro l hw
  refine ⟨300000000, ?_⟩
  generalize hk : (300000000 : Nat) = k
  unfold laws_FnIssuers.f laws_big.f
  rw [Option.bind_some]
  by_cases hl : (l.length : Int) > 1048576
  · rw [if_pos (decide_eq_true hl)]
  have hl' : l.length ≤ 1048576 := by omega
  rw [if_neg (by simpa using hl)]
  obtain ⟨a, L, c, f0, f1, f2, f3, f4, f5, e1, hL⟩ := dStateFact l hl' k (by omega)
  obtain ⟨t0, t1, t2, t3, t4, t5, t6, e2⟩ := dIsBelieved l hl' k (by omega)
  have hwI : ∀ x ∈ ISS, x.f1.length ≤ 1048576 := fun x hx => Nat.le_trans (ISS_w x hx) (by omega)
  have hI : ISS.length ≤ 1048576 := by decide
  have B1 := believed1 ISS t0 t1 t2 t3 t4 t5 t6 hI hwI k (by omega)
  have B2 := believed2 ISS t0 t1 t2 t3 t4 t5 t6 hI hwI k (by omega)
  have M := issMid l hl' t0 t1 t2 t3 t4 t5 t6 k (by omega)
  have S2 := state2 a L c f0 f1 f2 f3 f4 f5 (by omega) k (by omega)
  by_cases hs : (stateF a L c f0 f1 f2 f4 f5).2.2.2.2.2.2.2 = true
  · obtain ⟨g1, g2, g3, g4⟩ := state_ok _ _ _ _ _ _ _ _ hs
    have BS := believed2 [(⟨a, L, c⟩ : S48)] f0 f1 f2 a f4 f5 (keyed c [f0, f1, f2, a, f4, f5]) (by simp) (by simp; omega) k (by omega)
    rw [bel_self _ _ _ _ _ _ _ _ hs] at BS
    rw [g4] at S2
    simp only [e1, e2, S2, B1, B2, BS, fact2, g2, containsL L f0 (by omega) k (by omega), g3, M, Option.bind_some, bne_self_eq_false, Bool.false_eq_true, if_false, if_true, Bool.not_true]
  · generalize stateF a L c f0 f1 f2 f4 f5 = R at S2 hs
    obtain ⟨r0, r1, r2, r3, r4, r5, r6, r7⟩ := R
    simp only at hs
    simp only [e1, e2, S2, B1, B2, M, Option.bind_some, bne_self_eq_false, Bool.false_eq_true, if_false, if_neg hs]
end Go.Proofs.Ytabpgiebhgkfhaa.Pure
