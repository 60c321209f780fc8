/- FnExactIsBelieved: the program's IsBelieved answers what the reference's answers, for all issuers and statements. Conditions: none. -/
import Derived.Test.YtabpgiebhgkfhaaUFnExactIsBelievedLib
import Derived.Test.YtabpgiebhgkfhaaUFnExactIsBelievedx11
namespace Go.Proofs.Ytabpgiebhgkfhaa.Pure
open Go.RowKit Go.Proofs.Ytabpgiebhgkfhaa.XFnExactIsBelieved Go.Proofs.YtabpgiebhgkfhaaW.PrintWords
set_option linter.unusedVariables false
set_option linter.unusedSimpArgs false
open Go.Proofs.YtabpgiebhgkfhaaLib
theorem in1 (x y z : Int) : spec_l1In.f x y z = some (decide (y ≤ x ∧ x ≤ z)) := by
  unfold spec_l1In.f
  by_cases h : x ≥ y
  · rw [if_pos h]; simp [show y ≤ x from h]
  · rw [if_neg h]; simp; omega
theorem in2 (x y z : Int) : impl_InRange.f x y z = some (decide (y ≤ x ∧ x ≤ z)) := by
  unfold impl_InRange.f
  by_cases h : y ≤ x
  · rw [if_pos h]; simp [h]
  · rw [if_neg h]; simp; omega
def md (v : Int) : Int := Int.tmod (wrap64 (Int.tmod v 2147483647 + 2147483647)) 2147483647
def hstep (d v : Int) : Int := Int.tmod (wrap64 ((wrap64 ((wrap64 (d * 1000003)) + md v)) + 13)) 2147483647
def hash (l : List Int) : Int := l.foldl hstep 11
theorem mod1 (v : Int) : spec_Mod.f v 2147483647 = some (md v) := by
  simp [spec_Mod.f, in1, md]
theorem mod2 (v : Int) : impl_Mod.f v 2147483647 = some (md v) := by
  simp [impl_Mod.f, in2, md]
theorem hash1 (l : List Int) (hl : l.length ≤ 1099511627776) (k : Nat) (hk : l.length < k) : spec_Hash.f k l = some (hash l) := by
  unfold spec_Hash.f
  refine run (fun k s i => spec_Hash.l0 k l s i) (fun i => (l.take i).foldl hstep 11) l.length 0 (hash l) ?_ ?_ k (by omega)
  · intro k i _ hi
    simp only [spec_Hash.l0]
    rw [if_pos (by omega), if_pos (by omega), mod1, Option.bind_some, wrap_succ hi hl, rd_nat, foldl_take hstep 11 l i hi 0]
    rfl
  · intro k _
    simp only [spec_Hash.l0]
    rw [if_neg (by omega), List.take_length]
    rfl
theorem hash2 (l : List Int) (hl : l.length ≤ 1099511627776) (k : Nat) (hk : l.length < k) : impl_Hash.f k l = some (hash l) := by
  unfold impl_Hash.f
  refine run (fun k s i => impl_Hash.l0 k s l (l.length : Int) i) (fun i => (l.take i).foldl hstep 11) l.length 0 (hash l) ?_ ?_ k (by omega)
  · intro k i _ hi
    simp only [impl_Hash.l0]
    rw [if_pos (by omega), if_pos (by omega), if_pos (by omega), mod2, Option.bind_some, wrap_succ hi hl, rd_nat, foldl_take hstep 11 l i hi 0]
    rfl
  · intro k _
    simp only [impl_Hash.l0]
    rw [if_neg (by omega), List.take_length]
    rfl
theorem rdL (L : List (List Int)) (i : Nat) : rd_L1 L (i : Int) = L.getD i [] := by
  unfold rd_L1
  rw [Int.toNat_natCast]
theorem grow0 (n : Nat) (h : n ≤ 1099511627776) : slices_Grow_int_int.f [] (n : Int) = some [] := by
  unfold slices_Grow_int_int.f
  rw [if_pos ⟨rfl, by omega, by omega⟩]
theorem concat (L : List (List Int)) (hl : L.length ≤ 1048576) (ht : L.flatten.length ≤ 1099511627776) (k : Nat) (hk : 2 * L.length + 2 < k) : slices_Concat_int_int.f k L = some L.flatten := by
  unfold slices_Concat_int_int.f
  refine run (fun k s i => slices_Concat_int_int.l0 k L s L (L.length : Int) i) (fun i => ((L.take i).flatten.length : Int)) L.length (L.length + 1) L.flatten ?_ ?_ k (by omega)
  · intro k i _ hi
    have h1 := flatten_take L i hi
    have h2 := flatten_take_le L (i + 1)
    have h3 : ((L.take (i + 1)).flatten.length : Int) = ((L.take i).flatten.length : Int) + ((L.getD i []).length : Int) := by rw [h1, List.length_append]; omega
    have hw : wrap64 (((L.take i).flatten.length : Int) + ((L.getD i []).length : Int)) = ((L.take (i + 1)).flatten.length : Int) := by rw [h3]; exact wrap_in (by omega) (by omega)
    simp only [slices_Concat_int_int.l0, rdL]
    rw [if_pos (by omega), if_pos (by omega), if_pos (by omega), hw, if_neg (by omega), wrap_succ hi (by omega)]
  · intro k hk
    simp only [slices_Concat_int_int.l0]
    rw [if_neg (by omega), List.take_length, grow0 _ ht, Option.bind_some]
    refine run (fun k s i => slices_Concat_int_int.l1 k s L (L.length : Int) i) (fun i => (L.take i).flatten) L.length 0 L.flatten ?_ ?_ k (by omega)
    · intro k i _ hi
      have h1 := flatten_take L i hi
      have h2 := flatten_take_le L (i + 1)
      rw [h1, List.length_append] at h2
      simp only [slices_Concat_int_int.l1, rdL]
      rw [if_pos (by omega), if_pos (by omega), if_pos (by omega), if_pos (by omega), ← h1, wrap_succ hi (by omega)]
    · intro k _
      simp only [slices_Concat_int_int.l1]
      rw [if_neg (by omega), List.take_length]
def keyed (a : Int) (l : List Int) : Int := hash ([a] ++ l ++ [a])
theorem keyed1 (a : Int) (l : List Int) (hl : l.length ≤ 1048576) (k : Nat) (hk : l.length + 5 < k) : spec_KeyedHash.f k a l = some (keyed a l) := by
  unfold spec_KeyedHash.f
  rw [Option.bind_some, if_pos (by simp; omega), Option.bind_some, if_pos (by simp; omega), hash1 _ (by simp; omega) k (by simp; omega)]
  rfl
theorem keyed2 (a : Int) (l : List Int) (hl : l.length ≤ 1048576) (k : Nat) (hk : l.length + 20 < k) : impl_KeyedHash.f k a l = some (keyed a l) := by
  unfold impl_KeyedHash.f
  have hf : [[a], l, [a]].flatten = [a] ++ l ++ [a] := by simp
  rw [concat [[a], l, [a]] (by simp) (by rw [hf]; simp; omega) k (by simp; omega), Option.bind_some, hf, hash2 _ (by simp; omega) k (by simp; omega)]
  rfl
def ascAt (l : List Int) (lo hi : Int) (i : Nat) : Bool := decide (lo ≤ l.getD i 0 ∧ l.getD i 0 ≤ hi) && (decide (i = 0) || decide (l.getD (i - 1) 0 < l.getD i 0))
def asc (l : List Int) (lo hi : Int) : Bool := (List.range l.length).all (ascAt l lo hi)
theorem asc2 (l : List Int) (lo hi : Int) (hl : l.length ≤ 1099511627776) (k : Nat) (hk : l.length < k) : impl_isAscending.f k l lo hi = some (asc l lo hi) := by
  unfold impl_isAscending.f
  rw [allLoop (fun k i => impl_isAscending.l0 k l lo hi l (l.length : Int) i) l.length 0 (ascAt l lo hi) false true ?_ ?_ ?_ k (by omega)]
  · unfold asc
    cases (List.range l.length).all (ascAt l lo hi) <;> rfl
  · intro k i _ hi' hp
    simp only [ascAt, Bool.and_eq_true, Bool.or_eq_true, decide_eq_true_eq] at hp
    simp only [impl_isAscending.l0, in2, rd_nat, Option.bind_some, decide_eq_true_eq]
    rw [if_pos (by omega), if_pos (by omega), if_pos (by omega), if_pos hp.1, wrap_succ hi' hl]
    rcases Nat.eq_zero_or_pos i with h0 | h0
    · rw [if_neg (by omega)]
    · rw [if_pos (by omega), wrap_pred h0 hi' hl, rd_nat, if_pos (by omega), if_pos (by omega), if_neg (by omega)]
  · intro k i _ hi' hp
    simp only [impl_isAscending.l0, in2, rd_nat, Option.bind_some, decide_eq_true_eq]
    rw [if_pos (by omega), if_pos (by omega), if_pos (by omega)]
    by_cases h1 : lo ≤ l.getD i 0 ∧ l.getD i 0 ≤ hi
    · rw [if_pos h1]
      unfold ascAt at hp
      rw [decide_eq_true h1] at hp
      simp only [Bool.true_and, Bool.or_eq_false_iff, decide_eq_false_iff_not] at hp
      rw [if_pos (by omega), wrap_pred (by omega) hi' hl, rd_nat, if_pos (by omega), if_pos (by omega), if_pos (by omega)]
    · rw [if_neg h1]
  · intro k _
    simp only [impl_isAscending.l0]
    rw [if_neg (by omega)]
def isIssuer (a : Int) (l : List Int) (c : Int) : Bool := decide (0 ≤ a ∧ a ≤ 9) && (asc l 1 4 && decide (1 ≤ c ∧ c ≤ 2147483646))
theorem issuer2 (a : Int) (l : List Int) (c : Int) (hl : l.length ≤ 1099511627776) (k : Nat) (hk : l.length < k) : impl_IsIssuer.f k a l c = some (isIssuer a l c) := by
  simp only [impl_IsIssuer.f, impl_IsValidKey.f, in2, asc2 l 1 4 hl k hk, Option.bind_some, ite_and]
  rfl
theorem issuer1 (a : Int) (l : List Int) (c : Int) (hl : l.length ≤ 1099511627776) (k : Nat) (hk : l.length < k) : spec_IsIssuer.f k a l c = some (isIssuer a l c) := by
  unfold spec_IsIssuer.f
  rw [allLoop (fun k i => spec_IsIssuer.l0 k i a l c) l.length 0 (ascAt l 1 4) false (decide (0 ≤ a ∧ a ≤ 9) && decide (1 ≤ c ∧ c ≤ 2147483646)) ?_ ?_ ?_ k (by omega)]
  · unfold isIssuer asc
    cases (List.range l.length).all (ascAt l 1 4) <;> simp
  · intro k i _ hi' hp
    simp only [ascAt, Bool.and_eq_true, Bool.or_eq_true, decide_eq_true_eq] at hp
    simp only [spec_IsIssuer.l0, in1, rd_nat, Option.bind_some, decide_eq_true_eq]
    rw [if_pos (by omega), if_pos (by omega), if_pos hp.1, wrap_succ hi' hl]
    rcases Nat.eq_zero_or_pos i with h0 | h0
    · rw [if_neg (by omega)]
    · rw [if_pos (by omega), wrap_pred h0 hi' hl, rd_nat, if_pos (by omega), if_pos (by omega), if_neg (by omega)]
  · intro k i _ hi' hp
    simp only [spec_IsIssuer.l0, in1, rd_nat, Option.bind_some, decide_eq_true_eq]
    rw [if_pos (by omega), if_pos (by omega)]
    by_cases h1 : 1 ≤ l.getD i 0 ∧ l.getD i 0 ≤ 4
    · rw [if_pos h1]
      unfold ascAt at hp
      rw [decide_eq_true h1] at hp
      simp only [Bool.true_and, Bool.or_eq_false_iff, decide_eq_false_iff_not] at hp
      rw [if_pos (by omega), wrap_pred (by omega) hi' hl, rd_nat, if_pos (by omega), if_pos (by omega), if_pos (by omega)]
    · rw [if_neg h1]
  · intro k _
    simp only [spec_IsIssuer.l0, spec_IsValidKey.f, in1, Option.bind_some]
    rw [if_neg (by omega), ite_and]
def timeOk (t : Int) : Bool := decide (0 ≤ t ∧ t ≤ 10000)
theorem time1 (t : Int) : spec_IsTime.f t = some (timeOk t) := by
  simp only [spec_IsTime.f, in1, Option.bind_some]
  rfl
theorem time2 (t : Int) : impl_IsTime.f t = some (timeOk t) := by
  simp only [impl_IsTime.f, in2, Option.bind_some]
  rfl
def hasKind (n k : Int) : Bool := decide (10 ≤ n ∧ n ≤ 49) && (wrap64 (Int.tdiv n 10) == k)
theorem kind1 (n k : Int) : spec_HasKind.f n k = some (hasKind n k) := by
  simp only [spec_HasKind.f, spec_IsName.f, in1, Option.bind_some, ite_and]
  rfl
theorem kind2 (n k : Int) : impl_HasKind.f n k = some (hasKind n k) := by
  simp only [impl_HasKind.f, impl_KindOf.f, impl_IsName.f, in2, Option.bind_some]
  unfold hasKind
  cases decide (10 ≤ n ∧ n ≤ 49) <;> rfl
def claimOk (a b c : Int) : Bool :=
  if a = 1 then hasKind b 1 && decide (0 ≤ c ∧ c ≤ 5) else if a = 2 then hasKind b 1 && hasKind c 2 else if a = 3 then hasKind b 2 && decide (0 ≤ c ∧ c ≤ 3) else if a = 4 then hasKind b 3 && decide (0 ≤ c ∧ c ≤ 3) else false
def isFact (a b c d e f : Int) : Bool := claimOk a b c && (decide (0 ≤ d ∧ d ≤ 9) && (timeOk e && (timeOk f && decide (e ≤ f))))
theorem fact1 (a b c d e f : Int) : spec_IsFact.f a b c d e f = some (isFact a b c d e f) := by
  simp only [spec_IsFact.f, kind1, in1, time1, Option.bind_some, ite_and]
  unfold isFact claimOk
  by_cases h1 : a = 1
  · simp only [if_pos h1, Bool.and_assoc]
  by_cases h2 : a = 2
  · simp only [if_neg h1, if_pos h2, Bool.and_assoc]
  by_cases h3 : a = 3
  · simp only [if_neg h1, if_neg h2, if_pos h3, Bool.and_assoc]
  by_cases h4 : a = 4
  · simp only [if_neg h1, if_neg h2, if_neg h3, if_pos h4, Bool.and_assoc]
  · simp only [if_neg h1, if_neg h2, if_neg h3, if_neg h4, Bool.false_and]
theorem fact2 (a b c d e f : Int) : impl_IsFact.f a b c d e f = some (isFact a b c d e f) := by
  simp only [impl_IsFact.f, impl_isClaim.f, kind2, in2, time2, Option.bind_some, ite_and]
  unfold isFact claimOk
  by_cases h1 : a = 1
  · simp only [if_pos h1, Option.bind_some, ite_and]
  by_cases h2 : a = 2
  · simp only [if_neg h1, if_pos h2, Option.bind_some, ite_and]
  by_cases h3 : a = 3
  · simp only [if_neg h1, if_neg h2, if_pos h3, Option.bind_some, ite_and]
  by_cases h4 : a = 4
  · simp only [if_neg h1, if_neg h2, if_neg h3, if_pos h4, Option.bind_some, ite_and]
  · simp only [if_neg h1, if_neg h2, if_neg h3, if_neg h4, Option.bind_some, ite_and]
def has (l : List Int) (n : Int) : Bool := (List.range l.length).any fun i => l.getD i 0 == n
theorem index2 (l : List Int) (n : Int) (hl : l.length ≤ 1099511627776) (k : Nat) (hk : l.length < k) : slices_Index_int_int.f k l n = some (((List.range l.length).find? fun i => l.getD i 0 == n).elim (-1) fun i => (i : Int)) := by
  unfold slices_Index_int_int.f
  refine findLoop (fun k i => slices_Index_int_int.l0 k l n (l.length : Int) i) l.length 0 (fun i => l.getD i 0 == n) (fun i => (i : Int)) (-1) ?_ ?_ ?_ k (by omega)
  · intro k i _ hi hp
    have hp' : ¬ l.getD i 0 = n := by simpa using hp
    simp only [slices_Index_int_int.l0, rd_nat]
    rw [if_pos (by omega), if_pos (by omega), if_pos (by omega), if_neg (fun h => hp' h.symm), wrap_succ hi hl]
  · intro k i _ hi hp
    have hp' : l.getD i 0 = n := by simpa using hp
    simp only [slices_Index_int_int.l0, rd_nat]
    rw [if_pos (by omega), if_pos (by omega), if_pos (by omega), if_pos hp'.symm]
  · intro k _
    simp only [slices_Index_int_int.l0]
    rw [if_neg (by omega)]
theorem has2 (l : List Int) (n : Int) (hl : l.length ≤ 1099511627776) (k : Nat) (hk : l.length < k) : slices_Contains_int_int.f k l n = some (has l n) := by
  unfold slices_Contains_int_int.f has
  rw [index2 l n hl k hk, Option.bind_some]
  congr 1
  cases hf : (List.range l.length).find? fun i => l.getD i 0 == n with
  | none =>
    rw [List.find?_eq_none] at hf
    show decide ((-1 : Int) ≥ 0) = _
    rw [eq_comm, show decide ((-1 : Int) ≥ 0) = false from rfl, List.any_eq_false]
    exact hf
  | some i =>
    rw [List.find?_range_eq_some] at hf
    show decide ((i : Int) ≥ 0) = _
    rw [eq_comm, decide_eq_true (show (i : Int) ≥ 0 by omega), List.any_eq_true]
    exact ⟨i, hf.2.1, hf.1⟩
def stateF (a : Int) (l : List Int) (c f0 f1 f2 f4 f5 : Int) : Int × Int × Int × Int × Int × Int × Int × Bool :=
  if (isIssuer a l c && (isFact f0 f1 f2 a f4 f5 && has l f0)) = true then (f0, f1, f2, a, f4, f5, keyed c [f0, f1, f2, a, f4, f5], true) else (0, 0, 0, 0, 0, 0, 0, false)
theorem state2 (a : Int) (l : List Int) (c f0 f1 f2 f3 f4 f5 : Int) (hl : l.length ≤ 1048576) (k : Nat) (hk : 1048640 < k) : impl_StateFact.f k a l c f0 f1 f2 f3 f4 f5 = some (stateF a l c f0 f1 f2 f4 f5) := by
  obtain ⟨k, rfl⟩ : ∃ m, k = m + 1 := ⟨k - 1, by omega⟩
  simp only [impl_StateFact.f, impl_StateFact.j0, impl_FactInts.f, issuer2 a l c (by omega) (k + 1) (by omega), fact2, has2 l f0 (by omega) (k + 1) (by omega), keyed2 c [f0, f1, f2, a, f4, f5] (by simp) k (by simp; omega), Option.bind_some]
  unfold stateF
  cases isIssuer a l c
  · rfl
  cases isFact f0 f1 f2 a f4 f5
  · rfl
  cases has l f0 <;> rfl
theorem state1 (a : Int) (l : List Int) (c f0 f1 f2 f3 f4 f5 : Int) (hl : l.length ≤ 1048576) (k : Nat) (hk : 2097300 < k) : spec_StateFact.f k a l c f0 f1 f2 f3 f4 f5 = some (stateF a l c f0 f1 f2 f4 f5) := by
  unfold spec_StateFact.f
  refine run (fun k s i => spec_StateFact.l0 k s i a l c f0 f1 f2 a f4 f5) (fun i => (List.range i).any fun j => l.getD j 0 == f0) l.length 1048640 _ ?_ ?_ k (by omega)
  · intro k i hB hi
    rw [List.range_succ, List.any_append]
    simp only [spec_StateFact.l0, rd_nat]
    rw [if_pos (by omega), wrap_succ hi (by omega)]
    cases (List.range i).any fun j => l.getD j 0 == f0
    · rw [if_neg (by simp), if_pos (by omega)]
      simp
    · simp
  · intro k hB
    obtain ⟨k, rfl⟩ : ∃ m, k = m + 1 := ⟨k - 1, by omega⟩
    simp only [spec_StateFact.l0, spec_StateFact.j1, spec_FactInts.f, issuer1 a l c (by omega) (k + 1) (by omega), fact1, keyed1 c [f0, f1, f2, a, f4, f5] (by simp) k (by simp; omega), Option.bind_some]
    rw [if_neg (by omega)]
    unfold stateF
    rw [show ((List.range l.length).any fun j => l.getD j 0 == f0) = has l f0 from rfl]
    cases isIssuer a l c
    · rfl
    cases isFact f0 f1 f2 a f4 f5
    · rfl
    cases has l f0 <;> rfl
theorem szInt (l : List Int) (a : Int) (h0 : 0 ≤ a) (h1 : a ≤ 1048576) (hl : l.length ≤ maxLen) : laws_szIntS.f l a = some (if (l.length : Int) ≤ a then a - (l.length : Int) else -1) := by
  unfold maxLen at hl
  unfold laws_szIntS.f
  rw [wrap_in (by omega) (by omega)]
  by_cases h : (l.length : Int) ≤ a
  · rw [if_pos h, if_neg (by omega)]
  · rw [if_neg h, if_pos (by omega)]
theorem toIntS (l : List Int) (hl : l.length ≤ 1099511627776) (k : Nat) (hk : l.length < k) : laws_toIntS.f k l = some l := by
  unfold laws_toIntS.f
  rw [if_pos (by omega), if_pos (by omega), Int.toNat_natCast]
  refine (run (fun k s i => laws_toIntS.l0 k l s i) (put (fun i => l.getD i 0) (List.replicate l.length 0)) l.length 0 l ?_ ?_ k (by omega))
  · intro k i _ hi
    have hlen : (put (fun i => l.getD i 0) (List.replicate l.length 0) i).length = l.length := by rw [put_length _ _ _ (by simp; omega), List.length_replicate]
    simp only [laws_toIntS.l0]
    rw [if_pos (by omega), if_pos (by omega), if_pos (by omega), wrap_succ hi hl, rd_nat, Int.toNat_natCast, put_set (fun i => l.getD i 0) _ i (by simp; omega)]
  · intro k _
    simp only [laws_toIntS.l0]
    rw [if_neg (by omega), put_all _ _ (by simp), map_range_getD']
theorem eqIntS_self (l : List Int) (hl : l.length ≤ 1099511627776) (k : Nat) (hk : l.length < k) : laws_eqIntS.f k l l = some true := by
  unfold laws_eqIntS.f
  rw [if_pos rfl]
  refine run (fun k (_ : Unit) i => laws_eqIntS.l0 k l l i) (fun _ => ()) l.length 0 true ?_ ?_ k (by omega)
  · intro k i _ hi
    simp only [laws_eqIntS.l0]
    rw [if_pos (by omega), if_pos (by omega), if_pos (by omega), if_pos trivial, wrap_succ hi hl]
  · intro k _
    simp only [laws_eqIntS.l0]
    rw [if_neg (by omega)]
theorem toIssuer (a : Int) (l : List Int) (c : Int) (hl : l.length ≤ 1099511627776) (k : Nat) (hk : l.length < k) : laws_toIssuer.f k a l c = some (a, l, c) := by
  simp only [laws_toIssuer.f, toIntS l hl k hk, Option.bind_some]
theorem eqIssuer_self (a : Int) (l : List Int) (c : Int) (hl : l.length ≤ 1099511627776) (k : Nat) (hk : l.length < k) : laws_eqIssuer.f k a l c a l c = some true := by
  simp only [laws_eqIssuer.f, eqIntS_self l hl k hk, Option.bind_some, if_true]
theorem szIssuer (a : Int) (l : List Int) (c n : Int) (h0 : 0 ≤ n) (h1 : n ≤ 1048576) (hl : l.length ≤ maxLen) : laws_szIssuer.f a l c n = some (if (l.length : Int) ≤ n then n - (l.length : Int) else -1) := by
  simp only [laws_szIssuer.f, szInt l n h0 h1 hl, Option.bind_some]
  by_cases h : (l.length : Int) ≤ n
  · rw [if_pos h, if_neg (by omega)]
  · rw [if_neg h, if_pos (by omega)]
theorem rdIa (l : List S45) (i : Nat) : rd_T45 l (i : Int) = l.getD i z45 := by
  unfold rd_T45
  rw [Int.toNat_natCast]
theorem rdIb (l : List S48) (i : Nat) : rd_T48 l (i : Int) = l.getD i z48 := by
  unfold rd_T48
  rw [Int.toNat_natCast]
def cvI (x : S45) : S48 := ⟨x.f0, x.f1, x.f2⟩
/-- How many whole numbers the issuers hold. -/
def heldI (l : List S45) : Nat := (l.map fun x => x.f1.length).sum
theorem szIssuerS (l : List S45) (hl : l.length ≤ maxLen) (hw : ∀ x ∈ l, x.f1.length ≤ maxLen) (a : Int) (ha0 : 0 ≤ a) (ha : a ≤ 1048576) (k : Nat) (hk : 1048580 < k) : ∃ r, laws_szIssuerS.f k l a = some r ∧ (r < 0 ∨ (r ≤ a ∧ (l.length : Int) ≤ a ∧ (heldI l : Int) ≤ a)) := by
  unfold maxLen at hl
  unfold laws_szIssuerS.f
  rw [wrap_in (by omega) (by omega)]
  by_cases h : (l.length : Int) ≤ a
  · rw [if_neg (by omega), szLoop (fun k a i => laws_szIssuerS.l0 k l a i) l z45 (fun x => x.f1.length) 0 1048576 ?_ ?_ k _ (by omega) (by omega) (by omega)]
    · refine ⟨_, rfl, ?_⟩
      unfold heldI
      split
      · right; omega
      · left; omega
    · intro k i a _ hi h0 hM
      have hm := hw _ (getD_mem l i z45 hi)
      simp only [laws_szIssuerS.l0, rdIa]
      rw [if_pos (by omega), if_pos (by omega), szIssuer _ _ _ a h0 hM hm, Option.bind_some, wrap_succ hi (by omega)]
      by_cases h : (((l.getD i z45).f1.length : Nat) : Int) ≤ a
      · simp only [if_pos h]
        rw [if_neg (by omega)]
      · simp only [if_neg h]
        rfl
    · intro k a _
      simp only [laws_szIssuerS.l0]
      rw [if_neg (by omega)]
  · rw [if_pos (by omega)]
    exact ⟨_, rfl, .inl (by omega)⟩
theorem toIssuerS (l : List S45) (hl : l.length ≤ 1048576) (hw : ∀ x ∈ l, x.f1.length ≤ 1048576) (k : Nat) (hk : l.length + 1048578 < k) : laws_toIssuerS.f k l = some (l.map cvI) := by
  unfold laws_toIssuerS.f
  rw [if_pos (by omega), if_pos (by omega), Int.toNat_natCast]
  refine (run (fun k s i => laws_toIssuerS.l0 k l s i) (put (fun i => (⟨(l.getD i z45).f0, (l.getD i z45).f1, (l.getD i z45).f2⟩ : S48)) (List.replicate l.length z48)) l.length 1048578 (l.map cvI) ?_ ?_ k (by omega))
  · intro k i hB hi
    have hlen : (put (fun i => (⟨(l.getD i z45).f0, (l.getD i z45).f1, (l.getD i z45).f2⟩ : S48)) (List.replicate l.length z48) i).length = l.length := by rw [put_length _ _ _ (by simp; omega), List.length_replicate]
    have hm := hw _ (getD_mem l i z45 hi)
    simp only [laws_toIssuerS.l0, rdIa]
    rw [if_pos (by omega), if_pos (by omega), toIssuer _ _ _ (by omega) k (by omega)]
    simp only [Option.bind_some]
    rw [if_pos (by omega), wrap_succ hi (by omega), Int.toNat_natCast, put_set (fun i => (⟨(l.getD i z45).f0, (l.getD i z45).f1, (l.getD i z45).f2⟩ : S48)) _ i (by simp; omega)]
  · intro k _
    simp only [laws_toIssuerS.l0]
    rw [if_neg (by omega), put_all _ _ (by simp), map_range_getD l z45 (fun x => (⟨x.f0, x.f1, x.f2⟩ : S48))]
    rfl
theorem eqIssuerS_self (l : List S48) (hl : l.length ≤ 1048576) (hw : ∀ x ∈ l, x.f1.length ≤ 1048576) (k : Nat) (hk : l.length + 1048578 < k) : laws_eqIssuerS.f k l l = some true := by
  unfold laws_eqIssuerS.f
  rw [if_pos rfl]
  refine run (fun k (_ : Unit) i => laws_eqIssuerS.l0 k l l i) (fun _ => ()) l.length 1048578 true ?_ ?_ k (by omega)
  · intro k i hB hi
    have hm := hw _ (getD_mem l i z48 hi)
    simp only [laws_eqIssuerS.l0, rdIb]
    rw [if_pos (by omega), if_pos (by omega), if_pos (by omega), eqIssuer_self _ _ _ (by omega) k (by omega), Option.bind_some, if_pos rfl, wrap_succ hi (by omega)]
  · intro k _
    simp only [laws_eqIssuerS.l0]
    rw [if_neg (by omega)]
theorem cvI_held (l : List S45) (h : (heldI l : Int) ≤ 1048576) : (∀ x ∈ l, x.f1.length ≤ 1048576) ∧ ∀ x ∈ l.map cvI, x.f1.length ≤ 1048576 := by
  have h1 : ∀ x ∈ l, x.f1.length ≤ 1048576 := fun x hx => by
    have := le_sum (fun x : S45 => x.f1.length) l x hx
    unfold heldI at h
    omega
  refine ⟨h1, fun x hx => ?_⟩
  obtain ⟨y, hy, rfl⟩ := List.mem_map.1 hx
  exact h1 y hy
def findIssuer (l : List S48) (s : Int) : Int := ((List.range l.length).find? fun i => (l.getD i z48).f0 == s).elim (-1) fun i => (i : Int)
theorem findIssuer1 (l : List S48) (s : Int) (hl : l.length ≤ 1099511627776) (k : Nat) (hk : l.length < k) : spec_FindIssuer.f k l s = some (findIssuer l s) := by
  unfold spec_FindIssuer.f
  refine findLoop (fun k i => spec_FindIssuer.l0 k l s i) l.length 0 (fun i => (l.getD i z48).f0 == s) (fun i => (i : Int)) (-1) ?_ ?_ ?_ k (by omega)
  · intro k i _ hi hp
    simp only [spec_FindIssuer.l0, rdIb]
    rw [if_pos (by omega), if_pos (by omega), if_neg (by simpa using hp), wrap_succ hi hl]
  · intro k i _ hi hp
    simp only [spec_FindIssuer.l0, rdIb]
    rw [if_pos (by omega), if_pos (by omega), if_pos (by simpa using hp)]
  · intro k _
    simp only [spec_FindIssuer.l0]
    rw [if_neg (by omega)]
theorem findIssuer2 (l : List S48) (s : Int) : impl_FindIssuer.f l s = some (findIssuer l s) := rfl
theorem findIssuer_cases (l : List S48) (s : Int) : findIssuer l s = -1 ∨ ∃ i : Nat, i < l.length ∧ findIssuer l s = (i : Int) ∧ (l.getD i z48).f0 = s := by
  unfold findIssuer
  cases hf : (List.range l.length).find? fun i => (l.getD i z48).f0 == s with
  | none => exact .inl rfl
  | some i =>
    rw [List.find?_range_eq_some] at hf
    exact .inr ⟨i, by simpa using hf.2.1, rfl, by simpa using hf.1⟩
def believed (l : List S48) (f0 f1 f2 f3 f4 f5 m : Int) : Bool :=
  if findIssuer l f3 < 0 then false else
    let x := l.getD (findIssuer l f3).toNat z48
    let t := stateF x.f0 x.f1 x.f2 f0 f1 f2 f4 f5
    t.2.2.2.2.2.2.2 && ((t.1 == f0 && (t.2.1 == f1 && (t.2.2.1 == f2 && (t.2.2.2.1 == f3 && (t.2.2.2.2.1 == f4 && (t.2.2.2.2.2.1 == f5)))))) && (t.2.2.2.2.2.2.1 == m))
theorem believed1 (l : List S48) (f0 f1 f2 f3 f4 f5 m : Int) (hl : l.length ≤ 1048576) (hw : ∀ x ∈ l, x.f1.length ≤ 1048576) (k : Nat) (hk : 4000000 < k) : spec_IsBelieved.f k l f0 f1 f2 f3 f4 f5 m = some (believed l f0 f1 f2 f3 f4 f5 m) := by
  simp only [spec_IsBelieved.f, findIssuer1 l f3 (by omega) k (by omega), Option.bind_some]
  unfold believed
  rcases findIssuer_cases l f3 with h | ⟨i, hi, h, _⟩
  · rw [h, if_pos (by omega), if_pos (by omega)]
  · rw [h, if_neg (by omega), if_pos (by omega), if_pos (by omega), rdIb, state1 _ _ _ _ _ _ _ _ _ (hw _ (getD_mem l i _ hi)) k (by omega), Option.bind_some, ite_and, if_neg (by omega), Int.toNat_natCast]
theorem believed2 (l : List S48) (f0 f1 f2 f3 f4 f5 m : Int) (hl : l.length ≤ 1048576) (hw : ∀ x ∈ l, x.f1.length ≤ 1048576) (k : Nat) (hk : 4000000 < k) : impl_IsBelieved.f k l f0 f1 f2 f3 f4 f5 m = some (believed l f0 f1 f2 f3 f4 f5 m) := by
  simp only [impl_IsBelieved.f, findIssuer2, Option.bind_some]
  unfold believed
  rcases findIssuer_cases l f3 with h | ⟨i, hi, h, _⟩
  · rw [h, if_pos (by omega), if_pos (by omega)]
  · rw [h, if_neg (by omega), if_pos (by omega), if_pos (by omega), rdIb, state2 _ _ _ _ _ _ _ _ _ (hw _ (getD_mem l i _ hi)) k (by omega), Option.bind_some, ite_and, if_neg (by omega), Int.toNat_natCast]
theorem FnExactIsBelieved : laws_FnExactIsBelieved.Pure := by
  intro l f0 f1 f2 f3 f4 f5 m hw _ _ _ _ _ _ _
  suffices h : ∀ k, 4194304 < k → laws_FnExactIsBelieved.f k l f0 f1 f2 f3 f4 f5 m = some true from ⟨4194305, h _ (by omega)⟩
  intro k hk
  unfold laws_FnExactIsBelieved.f
  obtain ⟨r, hr, hc⟩ := szIssuerS l hw.1 (fun x hx => (hw.2 x hx).2.1.1) 1048576 (by omega) (by omega) k (by omega)
  rw [hr, Option.bind_some]
  rcases hc with hc | ⟨h1, h2, h3⟩
  · rw [if_pos hc]
  by_cases hneg : r < 0
  · rw [if_pos hneg]
  obtain ⟨g1, g2⟩ := cvI_held l h3
  have hl : (l.map cvI).length = l.length := List.length_map ..
  rw [if_neg hneg]
  simp only [toIssuerS l (by omega) g1 k (by omega), laws_toStated.f, laws_toFact.f, believed1 (l.map cvI) f0 f1 f2 f3 f4 f5 m (by omega) g2 k (by omega), believed2 (l.map cvI) f0 f1 f2 f3 f4 f5 m (by omega) g2 k (by omega), eqIssuerS_self (l.map cvI) (by omega) g2 k (by omega), Option.bind_some, bne_self_eq_false]
  rfl
end Go.Proofs.Ytabpgiebhgkfhaa.Pure
