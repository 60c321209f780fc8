/- FnAppraisal: what is said of appraisal holds for all bytes: a log is as good as its worst element, and stricter rules judge no log better. Conditions: none. -/
import Derived.Test.YtlmhemcpkmjkiaaUFnAppraisalLib
import Derived.Test.YtlmhemcpkmjkiaaUFnAppraisalx16
namespace Go.Proofs.Ytlmhemcpkmjkiaa.Pure
open Go.RowKit Go.Proofs.Ytlmhemcpkmjkiaa.XFnAppraisal Go.Proofs.YtlmhemcpkmjkiaaW.PrintWords
set_option linter.unusedVariables false
set_option linter.unusedSimpArgs false
open Go.Proofs.YtlmhemcpkmjkiaaLib

theorem in1 (x y z : Int) : spec_l1In.f x y z = some (decide (y ≤ x ∧ x ≤ z)) := by
  unfold spec_l1In.f
  by_cases h : x ≥ y
  · rw [if_pos h]; simp [show y ≤ x from h]
  · rw [if_neg h]; simp; omega
theorem in2 (x y z : Int) : impl_InRange.f x y z = some (decide (y ≤ x ∧ x ≤ z)) := by
  unfold impl_InRange.f
  by_cases h : y ≤ x
  · rw [if_pos h]; simp [h]
  · rw [if_neg h]; simp; omega
def has (l : List Int) (n : Int) : Bool := (List.range l.length).any fun i => l.getD i 0 == n
theorem index2 (l : List Int) (n : Int) (hl : l.length ≤ 1099511627776) (k : Nat) (hk : l.length < k) : slices_Index_int_int.f k l n = some (((List.range l.length).find? fun i => l.getD i 0 == n).elim (-1) fun i => (i : Int)) := by
  unfold slices_Index_int_int.f
  refine findLoop (fun k i => slices_Index_int_int.l0 k l n (l.length : Int) i) l.length 0 (fun i => l.getD i 0 == n) (fun i => (i : Int)) (-1) ?_ ?_ ?_ k (by omega)
  · intro k i _ hi hp
    have hp' : ¬ l.getD i 0 = n := by simpa using hp
    simp only [slices_Index_int_int.l0, rd_nat]
    rw [if_pos (by omega), if_pos (by omega), if_pos (by omega), if_neg (fun h => hp' h.symm), wrap_succ hi hl]
  · intro k i _ hi hp
    have hp' : l.getD i 0 = n := by simpa using hp
    simp only [slices_Index_int_int.l0, rd_nat]
    rw [if_pos (by omega), if_pos (by omega), if_pos (by omega), if_pos hp'.symm]
  · intro k _
    simp only [slices_Index_int_int.l0]
    rw [if_neg (by omega)]
theorem has2 (l : List Int) (n : Int) (hl : l.length ≤ 1099511627776) (k : Nat) (hk : l.length < k) : slices_Contains_int_int.f k l n = some (has l n) := by
  unfold slices_Contains_int_int.f has
  rw [index2 l n hl k hk, Option.bind_some]
  congr 1
  cases hf : (List.range l.length).find? fun i => l.getD i 0 == n with
  | none =>
    rw [List.find?_eq_none] at hf
    show decide ((-1 : Int) ≥ 0) = _
    rw [eq_comm, show decide ((-1 : Int) ≥ 0) = false from rfl, List.any_eq_false]
    exact hf
  | some i =>
    rw [List.find?_range_eq_some] at hf
    show decide ((i : Int) ≥ 0) = _
    rw [eq_comm, decide_eq_true (show (i : Int) ≥ 0 by omega), List.any_eq_true]
    exact ⟨i, hf.2.1, hf.1⟩
def ascAt (l : List Int) (lo hi : Int) (i : Nat) : Bool := decide (lo ≤ l.getD i 0 ∧ l.getD i 0 ≤ hi) && (decide (i = 0) || decide (l.getD (i - 1) 0 < l.getD i 0))
def asc (l : List Int) (lo hi : Int) : Bool := (List.range l.length).all (ascAt l lo hi)
theorem asc2 (l : List Int) (lo hi : Int) (hl : l.length ≤ 1099511627776) (k : Nat) (hk : l.length < k) : impl_isAscending.f k l lo hi = some (asc l lo hi) := by
  unfold impl_isAscending.f
  rw [allLoop (fun k i => impl_isAscending.l0 k l lo hi l (l.length : Int) i) l.length 0 (ascAt l lo hi) false true ?_ ?_ ?_ k (by omega)]
  · unfold asc
    cases (List.range l.length).all (ascAt l lo hi) <;> rfl
  · intro k i _ hi' hp
    simp only [ascAt, Bool.and_eq_true, Bool.or_eq_true, decide_eq_true_eq] at hp
    simp only [impl_isAscending.l0, in2, rd_nat, Option.bind_some, decide_eq_true_eq]
    rw [if_pos (by omega), if_pos (by omega), if_pos (by omega), if_pos hp.1, wrap_succ hi' hl]
    rcases Nat.eq_zero_or_pos i with h0 | h0
    · rw [if_neg (by omega)]
    · rw [if_pos (by omega), wrap_pred h0 hi' hl, rd_nat, if_pos (by omega), if_pos (by omega), if_neg (by omega)]
  · intro k i _ hi' hp
    simp only [impl_isAscending.l0, in2, rd_nat, Option.bind_some, decide_eq_true_eq]
    rw [if_pos (by omega), if_pos (by omega), if_pos (by omega)]
    by_cases h1 : lo ≤ l.getD i 0 ∧ l.getD i 0 ≤ hi
    · rw [if_pos h1]
      unfold ascAt at hp
      rw [decide_eq_true h1] at hp
      simp only [Bool.true_and, Bool.or_eq_false_iff, decide_eq_false_iff_not] at hp
      rw [if_pos (by omega), wrap_pred (by omega) hi' hl, rd_nat, if_pos (by omega), if_pos (by omega), if_pos (by omega)]
    · rw [if_neg h1]
  · intro k _
    simp only [impl_isAscending.l0]
    rw [if_neg (by omega)]
def apart (p q : List Int) : Bool := (List.range p.length).all fun i => !has q (p.getD i 0)
theorem apart2 (p q : List Int) (hq : q.length ≤ 1048576) : impl_areApart.f p q = some (apart p q) := by
  unfold impl_areApart.f
  rw [if_pos (by omega)]
  congr 1
  unfold impl_areApart.idx apart
  cases hf : (List.range p.length).find? fun i => impl_areApart.out q (p.getD i 0) with
  | none =>
    rw [List.find?_eq_none] at hf
    show (!decide (0 ≤ (-1 : Int))) = _
    rw [show (!decide (0 ≤ (-1 : Int))) = true from rfl, eq_comm, List.all_eq_true]
    intro i hi
    have := hf i hi
    unfold impl_areApart.out impl_areApart.has at this
    unfold has
    simpa using this
  | some i =>
    rw [List.find?_range_eq_some] at hf
    show (!decide (0 ≤ (i : Int))) = _
    rw [decide_eq_true (show (0 : Int) ≤ (i : Int) by omega), eq_comm, show (!true) = false from rfl, List.all_eq_false]
    refine ⟨i, hf.2.1, ?_⟩
    have := hf.1
    unfold impl_areApart.out impl_areApart.has at this
    unfold has
    simpa using this
def listOk (l : List Int) : Bool := asc l 0 99 && decide ((l.length : Int) ≤ 8)
def isAllowed (a : Int) (p q s : List Int) : Bool := decide (0 ≤ a) && (listOk p && (listOk q && (listOk s && (apart p q && (apart p s && apart q s)))))
theorem rdA (L : List (List Int)) (i : Nat) : rd_L1 L (i : Int) = L.getD i [] := by
  unfold rd_L1
  rw [Int.toNat_natCast]
theorem allowedRound (L : List (List Int)) (hL : ∀ x ∈ L, x.length ≤ 1048576) (hn : L.length ≤ 1048576) (a : Int) (p q s : List Int) (k i : Nat) (hk : 1048577 < k) (hi : i < L.length) : impl_IsAllowed.l0 (k + 1) L (L.length : Int) (i : Int) a p q s = if listOk (L.getD i []) = true then impl_IsAllowed.l0 k L (L.length : Int) ((i + 1 : Nat) : Int) a p q s else some false := by
  simp only [impl_IsAllowed.l0, rdA]
  have hx := hL _ (getD_mem L i [] hi)
  rw [if_pos (by omega), if_pos (by omega), if_pos (by omega), asc2 _ 0 99 (by omega) k (by omega), Option.bind_some, wrap_succ hi (by omega)]
  unfold listOk
  by_cases h : ((L.getD i []).length : Int) ≤ 8
  · rw [if_neg (by omega), decide_eq_true h, Bool.and_true]
  · rw [if_pos (by omega), decide_eq_false h, Bool.and_false, if_neg (by simp)]
theorem isAllowed2 (a : Int) (p q s : List Int) (h1 : p.length ≤ 1048576) (h2 : q.length ≤ 1048576) (h3 : s.length ≤ 1048576) (k : Nat) (hk : 4194304 < k) : impl_IsAllowed.f k a p q s = some (isAllowed a p q s) := by
  obtain ⟨k, rfl⟩ : ∃ j, k = j + 1 + 1 + 1 + 1 := ⟨k - 4, by omega⟩
  unfold impl_IsAllowed.f
  rw [Option.bind_some]
  have hL : ∀ x ∈ [p, q, s], x.length ≤ 1048576 := by
    intro x hx
    simp only [List.mem_cons, List.not_mem_nil, or_false] at hx
    rcases hx with rfl | rfl | rfl <;> assumption
  have r0 := allowedRound [p, q, s] hL (by simp) a p q s (k + 1 + 1 + 1) 0 (by omega) (by simp)
  have r1 := allowedRound [p, q, s] hL (by simp) a p q s (k + 1 + 1) 1 (by omega) (by simp)
  have r2 := allowedRound [p, q, s] hL (by simp) a p q s (k + 1) 2 (by omega) (by simp)
  have r3 : impl_IsAllowed.l0 (k + 1) [p, q, s] (([p, q, s] : List (List Int)).length : Int) (((2 + 1 : Nat)) : Int) a p q s = some (decide (0 ≤ a) && (apart p q && (apart p s && apart q s))) := by
    simp only [impl_IsAllowed.l0, apart2 p q h2, apart2 p s h3, apart2 q s h3, Option.bind_some, ite_and]
    rw [if_neg (by simp)]
    by_cases h : 0 ≤ a
    · rw [if_pos (show a ≥ 0 from h), decide_eq_true h, Bool.true_and]
    · rw [if_neg (show ¬ a ≥ 0 from h), decide_eq_false h, Bool.false_and]
  rw [show (0 : Int) = ((0 : Nat) : Int) from rfl, r0]
  show (if listOk p = true then _ else _) = _
  rw [show (0 + 1 : Nat) = 1 from rfl, r1]
  show (if listOk p = true then (if listOk q = true then _ else _) else _) = _
  rw [show (1 + 1 : Nat) = 2 from rfl, r2]
  show (if listOk p = true then (if listOk q = true then (if listOk s = true then _ else _) else _) else _) = _
  rw [r3]
  unfold isAllowed
  cases listOk p
  · simp
  cases listOk q
  · simp
  cases listOk s <;> simp
theorem copy2 (a : Int) (p q s : List Int) (h1 : p.length ≤ 1048576) (h2 : q.length ≤ 1048576) (h3 : s.length ≤ 1048576) : impl_copyAllowed.f a p q s = some (a, p, q, s) := by
  unfold impl_copyAllowed.f
  rw [Option.bind_some, if_pos (by simp; omega), Option.bind_some, if_pos (by simp; omega), Option.bind_some, if_pos (by simp; omega)]
  rfl
def replaceOk (a b : Int) (p q s : List Int) : Bool := isAllowed b p q s && !decide (b ≤ a)
theorem replace2 (a : Int) (p q s : List Int) (b : Int) (p' q' s' : List Int) (h1 : p.length ≤ 1048576) (h2 : q.length ≤ 1048576) (h3 : s.length ≤ 1048576) (g1 : p'.length ≤ 1048576) (g2 : q'.length ≤ 1048576) (g3 : s'.length ≤ 1048576) (k : Nat) (hk : 4194305 < k) :
    impl_ReplaceAllowed.f k a p q s b p' q' s' = some (if replaceOk a b p' q' s' = true then (b, p', q', s', true) else (a, p, q, s, false)) := by
  obtain ⟨k, rfl⟩ : ∃ m, k = m + 1 := ⟨k - 1, by omega⟩
  simp only [impl_ReplaceAllowed.f, impl_ReplaceAllowed.j0, isAllowed2 b p' q' s' g1 g2 g3 (k + 1) (by omega), copy2 a p q s h1 h2 h3, copy2 b p' q' s' g1 g2 g3, Option.bind_some]
  unfold replaceOk
  cases isAllowed b p' q' s'
  · rfl
  · cases decide (b ≤ a) <;> rfl
def md (v : Int) : Int := Int.tmod (wrap64 (Int.tmod v 2147483647 + 2147483647)) 2147483647
def hstep (d v : Int) : Int := Int.tmod (wrap64 ((wrap64 ((wrap64 (d * 1000003)) + md v)) + 13)) 2147483647
def hash (l : List Int) : Int := l.foldl hstep 11
theorem mod1 (v : Int) : spec_Mod.f v 2147483647 = some (md v) := by
  simp [spec_Mod.f, in1, md]
theorem mod2 (v : Int) : impl_Mod.f v 2147483647 = some (md v) := by
  simp [impl_Mod.f, in2, md]
theorem hash1 (l : List Int) (hl : l.length ≤ 1099511627776) (k : Nat) (hk : l.length < k) : spec_Hash.f k l = some (hash l) := by
  unfold spec_Hash.f
  refine run (fun k s i => spec_Hash.l0 k l s i) (fun i => (l.take i).foldl hstep 11) l.length 0 (hash l) ?_ ?_ k (by omega)
  · intro k i _ hi
    simp only [spec_Hash.l0]
    rw [if_pos (by omega), if_pos (by omega), mod1, Option.bind_some, wrap_succ hi hl, rd_nat, foldl_take hstep 11 l i hi 0]
    rfl
  · intro k _
    simp only [spec_Hash.l0]
    rw [if_neg (by omega), List.take_length]
    rfl
theorem hash2 (l : List Int) (hl : l.length ≤ 1099511627776) (k : Nat) (hk : l.length < k) : impl_Hash.f k l = some (hash l) := by
  unfold impl_Hash.f
  refine run (fun k s i => impl_Hash.l0 k s l (l.length : Int) i) (fun i => (l.take i).foldl hstep 11) l.length 0 (hash l) ?_ ?_ k (by omega)
  · intro k i _ hi
    simp only [impl_Hash.l0]
    rw [if_pos (by omega), if_pos (by omega), if_pos (by omega), mod2, Option.bind_some, wrap_succ hi hl, rd_nat, foldl_take hstep 11 l i hi 0]
    rfl
  · intro k _
    simp only [impl_Hash.l0]
    rw [if_neg (by omega), List.take_length]
    rfl
def register (l : List Int) : Int := l.foldl (fun r m => hash [r, m]) 0
theorem extend1 (r m : Int) (k : Nat) (hk : 5 ≤ k) : spec_ExtendRegister.f k r m = some (hash [r, m]) := by
  simp only [spec_ExtendRegister.f, hash1 [r, m] (by simp) k (by simp; omega), Option.bind_some]
theorem extend2 (r m : Int) (k : Nat) (hk : 5 ≤ k) : impl_ExtendRegister.f k r m = some (hash [r, m]) := by
  simp only [impl_ExtendRegister.f, hash2 [r, m] (by simp) k (by simp; omega), Option.bind_some]
theorem register1 (l : List Int) (hl : l.length ≤ 1099511627776) (k : Nat) (hk : l.length + 5 < k) : spec_RegisterOf.f k l = some (register l) := by
  unfold spec_RegisterOf.f
  refine run (fun k s i => spec_RegisterOf.l0 k l s i) (fun i => (l.take i).foldl (fun r m => hash [r, m]) 0) l.length 5 (register l) ?_ ?_ k (by omega)
  · intro k i hB hi
    simp only [spec_RegisterOf.l0]
    rw [if_pos (by omega), if_pos (by omega), extend1 _ _ k hB, Option.bind_some, wrap_succ hi hl, rd_nat, foldl_take (fun r m => hash [r, m]) 0 l i hi 0]
  · intro k _
    simp only [spec_RegisterOf.l0]
    rw [if_neg (by omega), List.take_length]
    rfl
theorem register2 (l : List Int) (hl : l.length ≤ 1099511627776) (k : Nat) (hk : l.length + 5 < k) : impl_RegisterOf.f k l = some (register l) := by
  unfold impl_RegisterOf.f
  refine run (fun k s i => impl_RegisterOf.l0 k s l (l.length : Int) i) (fun i => (l.take i).foldl (fun r m => hash [r, m]) 0) l.length 5 (register l) ?_ ?_ k (by omega)
  · intro k i hB hi
    simp only [impl_RegisterOf.l0]
    rw [if_pos (by omega), if_pos (by omega), if_pos (by omega), extend2 _ _ k hB, Option.bind_some, wrap_succ hi hl, rd_nat, foldl_take (fun r m => hash [r, m]) 0 l i hi 0]
  · intro k _
    simp only [impl_RegisterOf.l0]
    rw [if_neg (by omega), List.take_length]
    rfl
theorem rdL (L : List (List Int)) (i : Nat) : rd_L1 L (i : Int) = L.getD i [] := by
  unfold rd_L1
  rw [Int.toNat_natCast]
theorem grow0 (n : Nat) (h : n ≤ 1099511627776) : slices_Grow_int_int.f [] (n : Int) = some [] := by
  unfold slices_Grow_int_int.f
  rw [if_pos ⟨rfl, by omega, by omega⟩]
theorem concat (L : List (List Int)) (hl : L.length ≤ 1048576) (ht : L.flatten.length ≤ 1099511627776) (k : Nat) (hk : 2 * L.length + 2 < k) : slices_Concat_int_int.f k L = some L.flatten := by
  unfold slices_Concat_int_int.f
  refine run (fun k s i => slices_Concat_int_int.l0 k L s L (L.length : Int) i) (fun i => ((L.take i).flatten.length : Int)) L.length (L.length + 1) L.flatten ?_ ?_ k (by omega)
  · intro k i _ hi
    have h1 := flatten_take L i hi
    have h2 := flatten_take_le L (i + 1)
    have h3 : ((L.take (i + 1)).flatten.length : Int) = ((L.take i).flatten.length : Int) + ((L.getD i []).length : Int) := by rw [h1, List.length_append]; omega
    have hw : wrap64 (((L.take i).flatten.length : Int) + ((L.getD i []).length : Int)) = ((L.take (i + 1)).flatten.length : Int) := by rw [h3]; exact wrap_in (by omega) (by omega)
    simp only [slices_Concat_int_int.l0, rdL]
    rw [if_pos (by omega), if_pos (by omega), if_pos (by omega), hw, if_neg (by omega), wrap_succ hi (by omega)]
  · intro k hk
    simp only [slices_Concat_int_int.l0]
    rw [if_neg (by omega), List.take_length, grow0 _ ht, Option.bind_some]
    refine run (fun k s i => slices_Concat_int_int.l1 k s L (L.length : Int) i) (fun i => (L.take i).flatten) L.length 0 L.flatten ?_ ?_ k (by omega)
    · intro k i _ hi
      have h1 := flatten_take L i hi
      have h2 := flatten_take_le L (i + 1)
      rw [h1, List.length_append] at h2
      simp only [slices_Concat_int_int.l1, rdL]
      rw [if_pos (by omega), if_pos (by omega), if_pos (by omega), if_pos (by omega), ← h1, wrap_succ hi (by omega)]
    · intro k _
      simp only [slices_Concat_int_int.l1]
      rw [if_neg (by omega), List.take_length]
def keyed (a : Int) (l : List Int) : Int := hash ([a] ++ l ++ [a])
theorem keyed1 (a : Int) (l : List Int) (hl : l.length ≤ 1048576) (k : Nat) (hk : l.length + 5 < k) : spec_KeyedHash.f k a l = some (keyed a l) := by
  unfold spec_KeyedHash.f
  rw [Option.bind_some, if_pos (by simp; omega), Option.bind_some, if_pos (by simp; omega), hash1 _ (by simp; omega) k (by simp; omega)]
  rfl
theorem keyed2 (a : Int) (l : List Int) (hl : l.length ≤ 1048576) (k : Nat) (hk : l.length + 20 < k) : impl_KeyedHash.f k a l = some (keyed a l) := by
  unfold impl_KeyedHash.f
  have hf : [[a], l, [a]].flatten = [a] ++ l ++ [a] := by simp
  rw [concat [[a], l, [a]] (by simp) (by rw [hf]; simp; omega) k (by simp; omega), Option.bind_some, hf, hash2 _ (by simp; omega) k (by simp; omega)]
  rfl
def isLog (l : List Int) : Bool := if (List.range l.length).all (fun i => decide (0 ≤ l.getD i 0 ∧ l.getD i 0 ≤ 99)) = true then decide ((l.length : Int) ≤ 8) else false
theorem numbers_idx (lo hi : Int) (l : List Int) : (!decide (0 ≤ impl_areNumbers.idx (impl_areNumbers.out lo hi) l)) = (List.range l.length).all (fun i => decide (lo ≤ l.getD i 0 ∧ l.getD i 0 ≤ hi)) := by
  unfold impl_areNumbers.idx
  cases hf : (List.range l.length).find? fun i => impl_areNumbers.out lo hi (l.getD i 0) with
  | none =>
    rw [List.find?_eq_none] at hf
    show (!decide (0 ≤ (-1 : Int))) = _
    rw [show (!decide (0 ≤ (-1 : Int))) = true from rfl, eq_comm, List.all_eq_true]
    intro i hi
    have := hf i hi
    unfold impl_areNumbers.out at this
    simpa using this
  | some i =>
    rw [List.find?_range_eq_some] at hf
    show (!decide (0 ≤ (i : Int))) = _
    rw [show (!decide (0 ≤ (i : Int))) = false by simp, eq_comm, ← Bool.not_eq_true, List.all_eq_true]
    intro h
    have h1 := h i hf.2.1
    have h2 := hf.1
    unfold impl_areNumbers.out at h2
    rw [h1] at h2
    cases h2
theorem isLog1 (l : List Int) (hl : l.length ≤ 1099511627776) (k : Nat) (hk : l.length < k) : spec_IsLog.f k l = some (isLog l) := by
  unfold spec_IsLog.f
  refine allLoop (fun k i => spec_IsLog.l0 k l i) l.length 0 (fun i => decide (0 ≤ l.getD i 0 ∧ l.getD i 0 ≤ 99)) false (decide ((l.length : Int) ≤ 8)) ?_ ?_ ?_ k (by omega)
  · intro k i _ hi hp
    simp only [spec_IsLog.l0, in1, rd_nat, Option.bind_some]
    rw [if_pos (by omega), if_pos (by omega), if_pos hp, wrap_succ hi hl]
  · intro k i _ hi hp
    simp only [spec_IsLog.l0, in1, rd_nat, Option.bind_some]
    rw [if_pos (by omega), if_pos (by omega), if_neg (by simpa using hp)]
  · intro k _
    simp only [spec_IsLog.l0]
    rw [if_neg (by omega)]
theorem isLog2 (l : List Int) : impl_IsLog.f l = some (isLog l) := by
  unfold impl_IsLog.f impl_areNumbers.f
  rw [numbers_idx]
  unfold isLog
  by_cases h : (l.length : Int) ≤ 8
  · rw [if_pos h, Option.bind_some, decide_eq_true h]
    cases (List.range l.length).all fun i => decide (0 ≤ l.getD i 0 ∧ l.getD i 0 ≤ 99) <;> rfl
  · rw [if_neg h, decide_eq_false h]
    cases (List.range l.length).all fun i => decide (0 ≤ l.getD i 0 ∧ l.getD i 0 ≤ 99) <;> rfl
def timeOk (t : Int) : Bool := decide (0 ≤ t ∧ t ≤ 10000)
theorem time1 (t : Int) : spec_IsTime.f t = some (timeOk t) := by
  simp only [spec_IsTime.f, in1, Option.bind_some]
  rfl
theorem time2 (t : Int) : impl_IsTime.f t = some (timeOk t) := by
  simp only [impl_IsTime.f, in2, Option.bind_some]
  rfl
def kindOk (m : Int) : Bool := decide (10 ≤ m ∧ m ≤ 49) && (wrap64 (Int.tdiv m 10) == 2)
theorem qkind1 (m : Int) : spec_HasKind.f m 2 = some (kindOk m) := by
  simp only [spec_HasKind.f, spec_IsName.f, in1, Option.bind_some, ite_and]
  rfl
theorem qkind2 (m : Int) : impl_HasKind.f m 2 = some (kindOk m) := by
  simp only [impl_HasKind.f, impl_KindOf.f, impl_IsName.f, in2, Option.bind_some]
  unfold kindOk
  by_cases h : 10 ≤ m ∧ m ≤ 49
  · simp only [decide_eq_true h, if_true, Option.bind_some, Bool.true_and]
  · simp only [decide_eq_false h, Bool.false_and]
    rfl
def quoteOk (s m : Int) (l : List Int) (t : Int) : Bool := decide (1 ≤ s ∧ s ≤ 2147483646) && (kindOk m && (isLog l && timeOk t))
def quote (s m : Int) (l : List Int) (n t : Int) : Int × Int × Int × Int × Int × Bool := if quoteOk s m l t = true then (m, register l, n, t, keyed s [m, register l, n, t], true) else (0, 0, 0, 0, 0, false)
theorem quote1 (s m : Int) (l : List Int) (n t : Int) (hl : l.length ≤ 1048576) (k : Nat) (hk : 4194304 < k) : spec_MakeQuote.f k s m l n t = some (quote s m l n t) := by
  obtain ⟨k, rfl⟩ : ∃ j, k = j + 1 := ⟨k - 1, by omega⟩
  simp only [spec_MakeQuote.f, spec_IsValidKey.f, in1, qkind1, time1, isLog1 l (by omega) (k + 1) (by omega), spec_MakeQuote.j0, register1 l (by omega) k (by omega), keyed1 s [m, register l, n, t] (by simp) k (by simp; omega), Option.bind_some]
  unfold quote quoteOk
  cases decide (1 ≤ s ∧ s ≤ 2147483646)
  · rfl
  cases kindOk m
  · rfl
  cases isLog l
  · rfl
  cases timeOk t <;> rfl
theorem quote2 (s m : Int) (l : List Int) (n t : Int) (hl : l.length ≤ 1048576) (k : Nat) (hk : 4194304 < k) : impl_MakeQuote.f k s m l n t = some (quote s m l n t) := by
  obtain ⟨k, rfl⟩ : ∃ j, k = j + 1 := ⟨k - 1, by omega⟩
  simp only [impl_MakeQuote.f, impl_IsValidKey.f, in2, qkind2, time2, isLog2, impl_MakeQuote.j0, register2 l (by omega) k (by omega), keyed2 s [m, register l, n, t] (by simp) k (by simp; omega), Option.bind_some]
  unfold quote quoteOk
  cases decide (1 ≤ s ∧ s ≤ 2147483646)
  · rfl
  cases kindOk m
  · rfl
  cases isLog l
  · rfl
  cases timeOk t <;> rfl
def ageOf (a b : Int) : Int := if timeOk a = true then if timeOk b = true then if a > b then -1 else wrap64 (b - a) else -1 else -1
theorem age2 (a b : Int) : impl_AgeOf.f a b = some (ageOf a b) := by
  simp only [impl_AgeOf.f, time2, Option.bind_some]
  unfold ageOf
  split
  · split
    · split <;> rfl
    · rfl
  · rfl
theorem age_cases (a b : Int) : ageOf a b = -1 ∨ 0 ≤ ageOf a b := by
  unfold ageOf
  split
  · rename_i h1
    split
    · rename_i h2
      split
      · exact .inl rfl
      · have g1 := of_decide_eq_true (show decide (0 ≤ a ∧ a ≤ 10000) = true from h1)
        have g2 := of_decide_eq_true (show decide (0 ≤ b ∧ b ≤ 10000) = true from h2)
        rw [wrap_in (by omega) (by omega)]
        right
        omega
    · exact .inl rfl
  · exact .inl rfl
def fresh (a b g : Int) : Bool := decide (0 ≤ ageOf a b) && decide (ageOf a b ≤ g)
theorem fresh2 (a b g : Int) : impl_IsFresh.f a b g = some (fresh a b g) := by
  simp only [impl_IsFresh.f, age2, Option.bind_some]
  unfold fresh
  rcases age_cases a b with h | h
  · rw [if_pos h, decide_eq_false (by omega), Bool.false_and]
  · rw [if_neg (by omega), decide_eq_true h, Bool.true_and]
def checkQuote (s a b c d e : Int) (l : List Int) (n t g : Int) : Bool := (quote s a l n d).2.2.2.2.2 && (((quote s a l n d).1 == a && ((quote s a l n d).2.1 == b && ((quote s a l n d).2.2.1 == c && ((quote s a l n d).2.2.2.1 == d && ((quote s a l n d).2.2.2.2.1 == e))))) && fresh d t g)
theorem checkQuote2 (s a b c d e : Int) (l : List Int) (n t g : Int) (hl : l.length ≤ 1048576) (k : Nat) (hk : 4194304 < k) : impl_CheckQuote.f k s a b c d e l n t g = some (checkQuote s a b c d e l n t g) := by
  simp only [impl_CheckQuote.f, quote2 s a l n d hl k hk, fresh2, Option.bind_some, ite_and]
  rfl
def appOf (p q s : List Int) (n : Int) : Int := if has s n = true then 0 else if has q n = true then 2 else if has p n = true then 3 else 1
theorem one2 (a : Int) (p q s : List Int) (n : Int) (h1 : p.length ≤ 1048576) (h2 : q.length ≤ 1048576) (h3 : s.length ≤ 1048576) (k : Nat) (hk : 1048576 < k) : impl_AppraiseOne.f k a p q s n = some (appOf p q s n) := by
  simp only [impl_AppraiseOne.f, has2 p n (by omega) k (by omega), has2 q n (by omega) k (by omega), has2 s n (by omega) k (by omega), Option.bind_some, appOf]
  split
  · rfl
  · split
    · rfl
    · split <;> rfl
theorem log2 (a : Int) (p q s l : List Int) (h1 : p.length ≤ 1048576) (h2 : q.length ≤ 1048576) (h3 : s.length ≤ 1048576) (h4 : l.length ≤ 1048576) (k : Nat) (hk : 4194304 < k) : impl_AppraiseLog.f k a p q s l = some ((l.map (appOf p q s)).foldl mn 3) := by
  unfold impl_AppraiseLog.f
  refine run (fun k m i => impl_AppraiseLog.l0 k m l (l.length : Int) i a p q s) (fun i => ((l.take i).map (appOf p q s)).foldl mn 3) l.length 1048577 _ ?_ ?_ k (by omega)
  · intro k i hk hi
    simp only [impl_AppraiseLog.l0, rd_nat]
    rw [if_pos (by omega), if_pos (by omega), if_pos (by omega), one2 a p q s _ h1 h2 h3 k (by omega), Option.bind_some, wrap_succ hi (by omega)]
    have e : ((l.take (i + 1)).map (appOf p q s)).foldl mn 3 = mn (((l.take i).map (appOf p q s)).foldl mn 3) (appOf p q s (l.getD i 0)) := by
      rw [List.take_succ_eq_append_getElem hi, List.map_append, List.foldl_append, getD_get l i 0 hi]
      rfl
    rw [e]
  · intro k _
    simp only [impl_AppraiseLog.l0]
    rw [if_neg (by omega), List.take_of_length_le (Nat.le_refl _)]
def hasKind (n k : Int) : Bool := decide (10 ≤ n ∧ n ≤ 49) && (wrap64 (Int.tdiv n 10) == k)
theorem kind1 (n k : Int) : spec_HasKind.f n k = some (hasKind n k) := by
  simp only [spec_HasKind.f, spec_IsName.f, in1, Option.bind_some, ite_and]
  rfl
theorem kind2 (n k : Int) : impl_HasKind.f n k = some (hasKind n k) := by
  simp only [impl_HasKind.f, impl_KindOf.f, impl_IsName.f, in2, Option.bind_some]
  unfold hasKind
  cases decide (10 ≤ n ∧ n ≤ 49) <;> rfl
def claimOk (a b c : Int) : Bool :=
  if a = 1 then hasKind b 1 && decide (0 ≤ c ∧ c ≤ 5) else if a = 2 then hasKind b 1 && hasKind c 2 else if a = 3 then hasKind b 2 && decide (0 ≤ c ∧ c ≤ 3) else if a = 4 then hasKind b 3 && decide (0 ≤ c ∧ c ≤ 3) else false
def isFact (a b c d e f : Int) : Bool := claimOk a b c && (decide (0 ≤ d ∧ d ≤ 9) && (timeOk e && (timeOk f && decide (e ≤ f))))
theorem fact2 (a b c d e f : Int) : impl_IsFact.f a b c d e f = some (isFact a b c d e f) := by
  simp only [impl_IsFact.f, impl_isClaim.f, kind2, in2, time2, Option.bind_some, ite_and]
  unfold isFact claimOk
  by_cases h1 : a = 1
  · simp only [if_pos h1, Option.bind_some, ite_and]
  by_cases h2 : a = 2
  · simp only [if_neg h1, if_pos h2, Option.bind_some, ite_and]
  by_cases h3 : a = 3
  · simp only [if_neg h1, if_neg h2, if_pos h3, Option.bind_some, ite_and]
  by_cases h4 : a = 4
  · simp only [if_neg h1, if_neg h2, if_neg h3, if_pos h4, Option.bind_some, ite_and]
  · simp only [if_neg h1, if_neg h2, if_neg h3, if_neg h4, Option.bind_some, ite_and]
def endOf (a s : Int) : Int := if timeOk a = true then (if timeOk s = true then (if a + s < 10000 then a + s else 10000) else 0) else 0
theorem endOf2 (a s : Int) : impl_EndOf.f a s = some (endOf a s) := by
  simp only [impl_EndOf.f, time2, in2, Option.bind_some]
  unfold endOf
  by_cases h1 : timeOk a = true
  · rw [if_pos h1, if_pos h1]
    by_cases h2 : timeOk s = true
    · rw [if_pos h2, if_pos (by unfold timeOk at h2; exact h2)]
      unfold timeOk at h1 h2
      have g1 := of_decide_eq_true h1
      have g2 := of_decide_eq_true h2
      rw [wrap_in (by omega) (by omega)]
      unfold mn
      by_cases h : a + s < 10000
      · rw [if_neg (by omega), if_pos h]
      · rw [if_neg h]
        split
        · rfl
        · congr 1; omega
    · rw [if_neg h2, if_neg (by unfold timeOk at h2; exact h2)]
  · rw [if_neg h1, if_neg h1]
def health (p q s : List Int) (a b c d e f : Int) (l : List Int) (n t now : Int) : Int × Int × Int × Int × Int × Int × Bool := if checkQuote a b c d e f l n t 5 = true then (if isFact 3 b ((l.map (appOf p q s)).foldl mn 3) 1 t (endOf t now) = true then (3, b, (l.map (appOf p q s)).foldl mn 3, 1, t, endOf t now, true) else (0, 0, 0, 0, 0, 0, false)) else (0, 0, 0, 0, 0, 0, false)
theorem health2 (g : Int) (p q s : List Int) (a b c d e f : Int) (l : List Int) (n t now : Int) (h1 : p.length ≤ 1048576) (h2 : q.length ≤ 1048576) (h3 : s.length ≤ 1048576) (h4 : l.length ≤ 1048576) (k : Nat) (hk : 4194305 < k) : impl_HealthFact.f k g p q s a b c d e f l n t now = some (health p q s a b c d e f l n t now) := by
  obtain ⟨k, rfl⟩ : ∃ m, k = m + 1 := ⟨k - 1, by omega⟩
  simp only [impl_HealthFact.f, impl_HealthFact.j0, log2 g p q s l h1 h2 h3 h4 (k + 1) (by omega), endOf2, checkQuote2 a b c d e f l n t 5 h4 (k + 1) (by omega), fact2, Option.bind_some]
  unfold health
  by_cases hc : checkQuote a b c d e f l n t 5 = true
  · rw [if_pos hc, if_pos hc]
    cases isFact 3 b ((l.map (appOf p q s)).foldl mn 3) 1 t (endOf t now) <;> rfl
  · rw [if_neg hc, if_neg hc]
    rfl
def within (a b t : Int) : Bool := timeOk a && (timeOk b && (timeOk t && decide (a ≤ t ∧ t ≤ b)))
theorem within2 (a b t : Int) : impl_IsWithin.f a b t = some (within a b t) := by
  simp only [impl_IsWithin.f, time2, in2, Option.bind_some, ite_and]
  rfl
def holds (f0 f1 f2 f3 f4 f5 now age : Int) : Bool := isFact f0 f1 f2 f3 f4 f5 && (within f4 f5 now && fresh f4 now age)
theorem holds2 (f0 f1 f2 f3 f4 f5 now age : Int) : impl_HoldsAt.f f0 f1 f2 f3 f4 f5 now age = some (holds f0 f1 f2 f3 f4 f5 now age) := by
  simp only [impl_HoldsAt.f, fact2, within2, age2, Option.bind_some, ite_and]
  unfold holds
  by_cases h : within f4 f5 now = true
  · have h' := h
    unfold within at h'
    simp only [Bool.and_eq_true, decide_eq_true_eq] at h'
    obtain ⟨g1, _, g3, g4⟩ := h'
    have e : 0 ≤ ageOf f4 now := by
      have k1 := of_decide_eq_true (show decide (0 ≤ f4 ∧ f4 ≤ 10000) = true from g1)
      have k2 := of_decide_eq_true (show decide (0 ≤ now ∧ now ≤ 10000) = true from g3)
      unfold ageOf
      rw [if_pos g1, if_pos g3, if_neg (by omega), wrap_in (by omega) (by omega)]
      omega
    unfold fresh
    rw [decide_eq_true e, Bool.true_and]
  · rw [Bool.eq_false_iff.2 h]
    rfl
def strict (p q s u v w : List Int) : Bool := (List.range 100).all fun i => decide (appOf p q s (i : Int) ≤ appOf u v w (i : Int))
theorem stricter2 (a : Int) (p q s : List Int) (b : Int) (u v w : List Int) (h1 : p.length ≤ 1048576) (h2 : q.length ≤ 1048576) (h3 : s.length ≤ 1048576) (h4 : u.length ≤ 1048576) (h5 : v.length ≤ 1048576) (h6 : w.length ≤ 1048576) (k : Nat) (hk : 4194304 < k) : impl_IsStricter.f k a p q s b u v w = some (strict p q s u v w) := by
  unfold impl_IsStricter.f strict
  rw [allLoop (fun k i => impl_IsStricter.l0 k i a p q s b u v w) 100 1048577 (fun i => decide (appOf p q s (i : Int) ≤ appOf u v w (i : Int))) false true ?_ ?_ ?_ k (by omega)]
  · cases (List.range 100).all fun i => decide (appOf p q s (i : Int) ≤ appOf u v w (i : Int)) <;> rfl
  · intro k i hk hi hp
    have hp' := of_decide_eq_true hp
    simp only [impl_IsStricter.l0]
    rw [if_pos (by omega), one2 a p q s _ h1 h2 h3 k (by omega), Option.bind_some, one2 b u v w _ h4 h5 h6 k (by omega), Option.bind_some, if_neg (by omega), wrap_succ hi (by omega)]
  · intro k i hk hi hp
    have hp' := of_decide_eq_false hp
    simp only [impl_IsStricter.l0]
    rw [if_pos (by omega), one2 a p q s _ h1 h2 h3 k (by omega), Option.bind_some, one2 b u v w _ h4 h5 h6 k (by omega), Option.bind_some, if_pos (by omega)]
  · intro k _
    simp only [impl_IsStricter.l0]
    rw [if_neg (by omega)]
theorem and255 (x : Int) : 0 ≤ Go.bits .and .i64 x 255 ∧ Go.bits .and .i64 x 255 ≤ 255 := by
  unfold Go.bits
  simp only
  have h : (BitVec.ofInt IntKind.i64.bits x &&& BitVec.ofInt IntKind.i64.bits 255).toNat ≤ 255 := by
    rw [BitVec.toNat_and]
    exact Nat.le_trans Nat.and_le_right (by decide)
  rw [IntKind.wrap_i64]
  omega
/-- What a draw gives: something, and the place is still one of the list. -/
def Drawn {α : Type} (l : List Int) (r : Option (α × Int × Int)) (Q : α → Prop) : Prop := ∃ v i h, r = some (v, i, h) ∧ Q v ∧ 0 ≤ i ∧ i ≤ (l.length : Int)
theorem dByte (l : List Int) (hl : l.length ≤ 1048576) (i h : Int) (h0 : 0 ≤ i) (h1 : i ≤ (l.length : Int)) : Drawn l (spec_l1Byte.f l i h) fun v => 0 ≤ v ∧ v ≤ 255 := by
  unfold spec_l1Byte.f
  by_cases c : i < (l.length : Int)
  · rw [if_pos c, if_pos h0, wrap_in (x := i + 1) (by omega) (by omega)]
    exact ⟨_, _, _, rfl, and255 _, by omega, by omega⟩
  · rw [if_neg c]
    exact ⟨_, _, _, rfl, and255 _, by omega, by omega⟩
theorem dBelow (l : List Int) (hl : l.length ≤ 1048576) (i h : Int) (h0 : 0 ≤ i) (h1 : i ≤ (l.length : Int)) (n : Int) (hn : 0 < n) : Drawn l (spec_l1Below.f l i h n) fun v => 0 ≤ v ∧ v < n := by
  unfold spec_l1Below.f
  rw [if_neg (by omega)]
  by_cases c : n ≤ 256
  · rw [if_pos c]
    obtain ⟨v, i1, s1, e, ⟨g0, _⟩, p0, p1⟩ := dByte l hl i h h0 h1
    rw [e, Option.bind_some, if_neg (by omega)]
    exact ⟨_, _, _, rfl, ⟨Int.tmod_nonneg _ g0, Int.tmod_lt_of_pos _ hn⟩, p0, p1⟩
  · rw [if_neg c]
    obtain ⟨v, i1, s1, e, ⟨g0, g1⟩, p0, p1⟩ := dByte l hl i h h0 h1
    obtain ⟨v2, i2, s2, e2, ⟨g2, g3⟩, p2, p3⟩ := dByte l hl i1 s1 p0 p1
    obtain ⟨v3, i3, s3, e3, ⟨g4, g5⟩, p4, p5⟩ := dByte l hl i2 s2 p2 p3
    simp only [e, e2, e3, Option.bind_some]
    rw [if_neg (by omega), wrap_in (x := v * 65536) (by omega) (by omega), wrap_in (x := v2 * 256) (by omega) (by omega), wrap_in (x := v * 65536 + v2 * 256) (by omega) (by omega), wrap_in (by omega) (by omega)]
    exact ⟨_, _, _, rfl, ⟨Int.tmod_nonneg _ (by omega), Int.tmod_lt_of_pos _ hn⟩, p4, p5⟩
theorem dInt (l : List Int) (hl : l.length ≤ 1048576) (i h : Int) (h0 : 0 ≤ i) (h1 : i ≤ (l.length : Int)) (c : List Int) (hc : 0 < c.length) : Drawn l (spec_l1Int.f l i h c) fun v => v ∈ c := by
  unfold spec_l1Int.f
  obtain ⟨v, i1, s1, e, ⟨g0, g1⟩, p0, p1⟩ := dBelow l hl i h h0 h1 (c.length : Int) (by omega)
  rw [e, Option.bind_some, if_pos g0, if_pos g1]
  refine ⟨_, _, _, rfl, ?_, p0, p1⟩
  unfold rd
  exact getD_mem c _ 0 (by omega)
def seedOf (l : List Int) : Nat → Int
  | 0 => wrap64 (193017 + (l.length : Int))
  | i + 1 => Go.bits .and .i64 (wrap64 ((wrap64 ((wrap64 (seedOf l i * 137)) + (wrap64 (l.getD i 0)))) + 11)) 1073741823
theorem new1 (l : List Int) (hl : l.length ≤ 1048576) (k : Nat) (hk : 1048577 < k) : spec_l1New.f k l = some (l, 0, seedOf l (min l.length 4000)) := by
  unfold spec_l1New.f
  refine run (fun k s i => spec_l1New.l0 k l s i) (seedOf l) (min l.length 4000) 0 _ ?_ ?_ k (by omega)
  · intro k i _ hi
    simp only [spec_l1New.l0, rd_nat]
    rw [if_pos (by omega), if_pos (by omega), if_pos (by omega), wrap_succ hi (by omega)]
    rfl
  · intro k _
    simp only [spec_l1New.l0]
    by_cases c : l.length < 4000
    · rw [Nat.min_eq_left (by omega), if_neg (by omega)]
    · rw [Nat.min_eq_right (by omega)]
      split
      · rw [if_neg (by omega)]
      · rfl
theorem dName (l : List Int) (hl : l.length ≤ 1048576) (i h : Int) (h0 : 0 ≤ i) (h1 : i ≤ (l.length : Int)) (a : Int) : Drawn l (spec_l5Name.f l i h a) fun _ => True := by
  unfold spec_l5Name.f
  obtain ⟨v, i1, s1, e, _, p0, p1⟩ := dBelow l hl i h h0 h1 3 (by omega)
  rw [e, Option.bind_some]
  exact ⟨_, _, _, rfl, trivial, p0, p1⟩
theorem log_loop (l : List Int) (hl : l.length ≤ 1048576) (d : Nat) : ∀ (out : List Int) (k : Nat) (i h : Int), 0 ≤ i → i ≤ (l.length : Int) → out.length + d ≤ 1000 → d < k → Drawn l (spec_l12Log.l0 k out (d : Int) l i h) fun v => v.length = out.length + d := by
  induction d with
  | zero =>
    intro out k i h h0 h1 _ hk
    obtain ⟨k, rfl⟩ : ∃ m, k = m + 1 := ⟨k - 1, by omega⟩
    simp only [spec_l12Log.l0]
    rw [if_neg (by omega)]
    exact ⟨_, _, _, rfl, rfl, h0, h1⟩
  | succ d ih =>
    intro out k i h h0 h1 ho hk
    obtain ⟨k, rfl⟩ : ∃ m, k = m + 1 := ⟨k - 1, by omega⟩
    simp only [spec_l12Log.l0]
    rw [if_pos (by omega)]
    obtain ⟨v, i, h, e, _, h0, h1⟩ := dBelow l hl i h h0 h1 6 (by omega)
    simp only [e, Option.bind_some]
    rw [if_pos (by omega), wrap_in (by omega) (by omega), show ((d + 1 : Nat) : Int) - 1 = (d : Int) by omega]
    obtain ⟨v2, i2, s2, e2, q, g0, g1⟩ := ih (out ++ [v]) k i h h0 h1 (by rw [List.length_append]; simp; omega) (by omega)
    have hq : v2.length = out.length + (d + 1) := by rw [q, List.length_append]; simp; omega
    exact ⟨v2, i2, s2, e2, hq, g0, g1⟩
theorem dLog (l : List Int) (hl : l.length ≤ 1048576) (i h : Int) (h0 : 0 ≤ i) (h1 : i ≤ (l.length : Int)) (k : Nat) (hk : 10 < k) : Drawn l (spec_l12Log.f k l i h) fun v => v.length ≤ 4 := by
  unfold spec_l12Log.f
  obtain ⟨v, i, h, e, ⟨g0, g1⟩, h0, h1⟩ := dBelow l hl i h h0 h1 5 (by omega)
  simp only [e, Option.bind_some]
  obtain ⟨n, rfl⟩ : ∃ n : Nat, v = (n : Int) := ⟨v.toNat, by omega⟩
  obtain ⟨v2, i2, s2, e2, q, p0, p1⟩ := log_loop l hl n [] k i h h0 h1 (by simp; omega) (by omega)
  have hq : v2.length ≤ 4 := by rw [q]; simp; omega
  exact ⟨v2, i2, s2, e2, hq, p0, p1⟩
def DrawnA (l : List Int) (r : Option (Int × List Int × List Int × List Int × Int × Int)) : Prop := ∃ a p q s i h, r = some (a, p, q, s, i, h) ∧ p.length ≤ 7 ∧ q.length ≤ 7 ∧ s.length ≤ 7 ∧ 0 ≤ i ∧ i ≤ (l.length : Int)
def DrawnA8 (l : List Int) (r : Option (Int × List Int × List Int × List Int × Int × Int)) : Prop := ∃ a p q s i h, r = some (a, p, q, s, i, h) ∧ p.length ≤ 8 ∧ q.length ≤ 8 ∧ s.length ≤ 8 ∧ 0 ≤ i ∧ i ≤ (l.length : Int)
theorem allowed_loop (l : List Int) (hl : l.length ≤ 1048576) (a : Int) (d : Nat) : ∀ (x : Nat) (p q s : List Int) (k : Nat) (i h : Int), x + d = 6 → p.length + q.length + s.length ≤ x → 0 ≤ i → i ≤ (l.length : Int) → 2 * d + 2 < k → ∃ p' q' s' i' h', spec_l13Allowed.l0 k (x : Int) l i h a p q s = some (a, p', q', s', i', h') ∧ p'.length + q'.length + s'.length ≤ 6 ∧ 0 ≤ i' ∧ i' ≤ (l.length : Int) := by
  induction d with
  | zero =>
    intro x p q s k i h hx hn h0 h1 hk
    obtain ⟨k, rfl⟩ : ∃ m, k = m + 1 := ⟨k - 1, by omega⟩
    simp only [spec_l13Allowed.l0]
    rw [if_neg (by omega)]
    exact ⟨_, _, _, _, _, rfl, by omega, h0, h1⟩
  | succ d ih =>
    intro x p q s k i h hx hn h0 h1 hk
    obtain ⟨k, rfl⟩ : ∃ m, k = m + 2 := ⟨k - 2, by omega⟩
    obtain ⟨v, i, h, e, _, h0, h1⟩ := dBelow l hl i h h0 h1 5 (by omega)
    have J : ∀ c : Bool, ∃ p' q' s' i' h', spec_l13Allowed.j1 (k + 1) (x : Int) v c l i h a p q s = some (a, p', q', s', i', h') ∧ p'.length + q'.length + s'.length ≤ 6 ∧ 0 ≤ i' ∧ i' ≤ (l.length : Int) := by
      intro c
      have w : wrap64 ((x : Int) + 1) = ((x + 1 : Nat) : Int) := by rw [wrap_in (by omega) (by omega)]; omega
      rw [spec_l13Allowed.j1, w]
      clear w
      have l1 : (p ++ [(x : Int)]).length = p.length + 1 := by simp
      have l2 : (q ++ [(x : Int)]).length = q.length + 1 := by simp
      have l3 : (s ++ [(x : Int)]).length = s.length + 1 := by simp
      by_cases c0 : c = true
      · rw [if_pos c0, if_pos (by omega)]
        exact ih (x + 1) _ _ _ k i h (by omega) (by omega) h0 h1 (by omega)
      rw [if_neg c0]
      by_cases c1 : v = 2
      · rw [if_pos c1, if_pos (by omega)]
        exact ih (x + 1) _ _ _ k i h (by omega) (by omega) h0 h1 (by omega)
      rw [if_neg c1]
      by_cases c2 : v = 3
      · rw [if_pos c2, if_pos (by omega)]
        exact ih (x + 1) _ _ _ k i h (by omega) (by omega) h0 h1 (by omega)
      rw [if_neg c2]
      exact ih (x + 1) _ _ _ k i h (by omega) (by omega) h0 h1 (by omega)
    simp only [spec_l13Allowed.l0]
    rw [if_pos (by omega)]
    rw [e, Option.bind_some]
    dsimp only
    by_cases cz : v = 0
    · rw [if_pos cz]
      exact J (v == 0)
    · rw [if_neg cz]
      exact J (v == 1)
theorem dAllowed (l : List Int) (hl : l.length ≤ 1048576) (i h : Int) (h0 : 0 ≤ i) (h1 : i ≤ (l.length : Int)) (k : Nat) (hk : 40 < k) : DrawnA l (spec_l13Allowed.f k l i h) := by
  unfold spec_l13Allowed.f
  obtain ⟨v, i, h, e, _, h0, h1⟩ := dBelow l hl i h h0 h1 4 (by omega)
  simp only [e, Option.bind_some]
  obtain ⟨p, q, s, i, h, e, hn, h0, h1⟩ := allowed_loop l hl v 6 0 [] [] [] k i h rfl (by simp) h0 h1 (by omega)
  exact ⟨v, p, q, s, i, h, e, by omega, by omega, by omega, h0, h1⟩
theorem dAnyAllowed (l : List Int) (hl : l.length ≤ 1048576) (i h : Int) (h0 : 0 ≤ i) (h1 : i ≤ (l.length : Int)) (k : Nat) (hk : 40 < k) : DrawnA8 l (spec_l13Any.f k l i h) := by
  unfold spec_l13Any.f
  obtain ⟨a, p, q, s, i, h, e, n1, n2, n3, h0, h1⟩ := dAllowed l hl i h h0 h1 k hk
  simp only [e, Option.bind_some]
  clear e
  obtain ⟨v, i, h, e, _, h0, h1⟩ := dBelow l hl i h h0 h1 8 (by omega)
  simp only [e, Option.bind_some]
  clear e
  by_cases c0 : v = 0
  · rw [if_pos c0]
    exact ⟨_, _, _, _, _, _, rfl, by omega, by omega, by omega, h0, h1⟩
  rw [if_neg c0]
  by_cases c1 : v = 1
  · rw [if_pos c1]
    obtain ⟨v2, i, h, e, _, h0, h1⟩ := dInt l hl i h h0 h1 [0, 3, 99, 100] (by simp)
    simp only [e, Option.bind_some]
    rw [if_pos (by omega)]
    exact ⟨_, _, _, _, _, _, rfl, by simp; omega, by omega, by omega, h0, h1⟩
  rw [if_neg c1]
  by_cases c2 : v = 2
  · rw [if_pos c2]
    obtain ⟨v2, i, h, e, _, h0, h1⟩ := dBelow l hl i h h0 h1 6 (by omega)
    simp only [e, Option.bind_some]
    rw [if_pos (by omega)]
    exact ⟨_, _, _, _, _, _, rfl, by omega, by omega, by simp; omega, h0, h1⟩
  rw [if_neg c2]
  exact ⟨_, _, _, _, _, _, rfl, by omega, by omega, by omega, h0, h1⟩
theorem dReplace (l : List Int) (hl : l.length ≤ 1048576) (k : Nat) (hk : 1048577 < k) : ∃ (a : Int) (p q s : List Int) (b : Int) (u v w : List Int), spec_DrawReplaceAllowed.f k l = some (a, p, q, s, b, u, v, w) ∧ p.length ≤ 8 ∧ q.length ≤ 8 ∧ s.length ≤ 8 ∧ u.length ≤ 8 ∧ v.length ≤ 8 ∧ w.length ≤ 8 := by
  unfold spec_DrawReplaceAllowed.f
  rw [new1 l hl k hk]
  simp only [Option.bind_some]
  generalize seedOf l (min l.length 4000) = h
  obtain ⟨a, p, q, s, i, h, e, n1, n2, n3, h0, h1⟩ := dAllowed l hl 0 h (by omega) (by omega) k (by omega)
  simp only [e, Option.bind_some]
  clear e
  obtain ⟨b, u, v, w, i, h, e, m1, m2, m3, h0, h1⟩ := dAnyAllowed l hl i h h0 h1 k (by omega)
  simp only [e, Option.bind_some]
  exact ⟨a, p, q, s, b, u, v, w, rfl, by omega, by omega, by omega, m1, m2, m3⟩
theorem dStricter (l : List Int) (hl : l.length ≤ 1048576) (k : Nat) (hk : 1048577 < k) : ∃ (a : Int) (p q s : List Int) (b : Int) (u v w : List Int), spec_DrawIsStricter.f k l = some (a, p, q, s, b, u, v, w) ∧ p.length ≤ 8 ∧ q.length ≤ 8 ∧ s.length ≤ 8 ∧ u.length ≤ 8 ∧ v.length ≤ 8 ∧ w.length ≤ 8 := by
  unfold spec_DrawIsStricter.f
  obtain ⟨a, p, q, s, b, u, v, w, e, n⟩ := dReplace l hl k hk
  rw [e, Option.bind_some]
  exact ⟨a, p, q, s, b, u, v, w, rfl, n⟩
theorem dAppraise (l : List Int) (hl : l.length ≤ 1048576) (k : Nat) (hk : 1048577 < k) : ∃ (a : Int) (p q s g : List Int), spec_DrawAppraiseLog.f k l = some (a, p, q, s, g) ∧ p.length ≤ 8 ∧ q.length ≤ 8 ∧ s.length ≤ 8 ∧ g.length ≤ 8 := by
  unfold spec_DrawAppraiseLog.f
  rw [new1 l hl k hk]
  simp only [Option.bind_some]
  generalize seedOf l (min l.length 4000) = h
  obtain ⟨a, p, q, s, i, h, e, n1, n2, n3, h0, h1⟩ := dAllowed l hl 0 h (by omega) (by omega) k (by omega)
  simp only [e, Option.bind_some]
  clear e
  obtain ⟨g, i, h, e, hg, h0, h1⟩ := dLog l hl i h h0 h1 k (by omega)
  simp only [e, Option.bind_some]
  exact ⟨a, p, q, s, g, rfl, by omega, by omega, by omega, by omega⟩
theorem dCheckEnd (l : List Int) (hl : l.length ≤ 1048576) (g : List Int) (n : Int) (i h : Int) (h0 : 0 ≤ i) (h1 : i ≤ (l.length : Int)) (a b c d e : Int) (hg : g.length ≤ 8) (k : Nat) (hk : 10 < k) : ∃ (r0 r1 r2 r3 r4 r5 : Int) (G : List Int) (t now span : Int), spec_DrawCheckQuote.j0 k g n l i h a b c d e = some (r0, r1, r2, r3, r4, r5, G, t, now, span) ∧ G.length ≤ 8 := by
  obtain ⟨k, rfl⟩ : ∃ m, k = m + 1 := ⟨k - 1, by omega⟩
  simp only [spec_DrawCheckQuote.j0]
  obtain ⟨v, i, h, e1, _, h0, h1⟩ := dBelow l hl i h h0 h1 6 (by omega)
  simp only [e1, Option.bind_some]
  clear e1
  obtain ⟨v2, i, h, e1, _, h0, h1⟩ := dInt l hl i h h0 h1 [200, 200, 200, 201] (by simp)
  simp only [e1, Option.bind_some]
  clear e1
  obtain ⟨v3, i, h, e1, _, h0, h1⟩ := dInt l hl i h h0 h1 [0, 3, 9] (by simp)
  simp only [e1, Option.bind_some]
  exact ⟨_, _, _, _, _, _, _, _, _, _, rfl, hg⟩
theorem dCheckQuote (l : List Int) (hl : l.length ≤ 1048576) (k : Nat) (hk : 4194306 < k) : ∃ (r0 r1 r2 r3 r4 r5 : Int) (G : List Int) (t now span : Int), spec_DrawCheckQuote.f k l = some (r0, r1, r2, r3, r4, r5, G, t, now, span) ∧ G.length ≤ 8 := by
  unfold spec_DrawCheckQuote.f
  rw [new1 l hl k (by omega)]
  simp only [Option.bind_some]
  generalize seedOf l (min l.length 4000) = h
  obtain ⟨g, i, h, e, hg, h0, h1⟩ := dLog l hl 0 h (by omega) (by omega) k (by omega)
  simp only [e, Option.bind_some]
  clear e
  obtain ⟨v, i, h, e, _, h0, h1⟩ := dBelow l hl i h h0 h1 9 (by omega)
  simp only [e, Option.bind_some]
  clear e
  obtain ⟨v2, i, h, e, _, h0, h1⟩ := dName l hl i h h0 h1 2
  simp only [e, Option.bind_some]
  clear e
  obtain ⟨v3, i, h, e, _, h0, h1⟩ := dBelow l hl i h h0 h1 20 (by omega)
  simp only [e, Option.bind_some]
  clear e
  rw [quote1 200 v2 g v v3 (by omega) k (by omega), Option.bind_some]
  generalize quote 200 v2 g v v3 = R
  obtain ⟨x0, x1, x2, x3, x4, x5⟩ := R
  obtain ⟨v4, i, h, e, _, h0, h1⟩ := dBelow l hl i h h0 h1 8 (by omega)
  simp only [e, Option.bind_some]
  clear e
  have E := fun (g : List Int) (n a b c d e : Int) (hg : g.length ≤ 8) => dCheckEnd l hl g n i h h0 h1 a b c d e hg k (by omega)
  by_cases c0 : v4 = 0
  · rw [if_pos c0, if_pos (by omega)]
    exact E _ _ _ _ _ _ _ (by simp; omega)
  rw [if_neg c0]
  by_cases c1 : v4 = 1
  · rw [if_pos c1]
    exact E _ _ _ _ _ _ _ (by omega)
  rw [if_neg c1]
  by_cases c2 : v4 = 2
  · rw [if_pos c2]
    exact E _ _ _ _ _ _ _ (by omega)
  rw [if_neg c2]
  by_cases c3 : v4 = 3
  · rw [if_pos c3]
    exact E _ _ _ _ _ _ _ (by omega)
  rw [if_neg c3]
  exact E _ _ _ _ _ _ _ (by omega)
theorem dHealth (l : List Int) (hl : l.length ≤ 1048576) (k : Nat) (hk : 4194306 < k) : ∃ (g : Int) (p q s : List Int) (a b c d e f : Int) (G : List Int) (n t span : Int), spec_DrawHealthFact.f k l = some (g, p, q, s, a, b, c, d, e, f, G, n, t, span) ∧ p.length ≤ 8 ∧ q.length ≤ 8 ∧ s.length ≤ 8 ∧ G.length ≤ 8 := by
  unfold spec_DrawHealthFact.f
  obtain ⟨r0, r1, r2, r3, r4, r5, G, t, now, span, e, hG⟩ := dCheckQuote l hl k hk
  rw [e, Option.bind_some, new1 l hl k (by omega)]
  simp only [Option.bind_some]
  clear e
  generalize seedOf l (min l.length 4000) = h
  obtain ⟨a, p, q, s, i, h, e, n1, n2, n3, h0, h1⟩ := dAllowed l hl 0 h (by omega) (by omega) k (by omega)
  simp only [e, Option.bind_some]
  clear e
  obtain ⟨v, i, h, e, _, h0, h1⟩ := dInt l hl i h h0 h1 [0, 10, 20, -1] (by simp)
  simp only [e, Option.bind_some]
  exact ⟨_, _, _, _, _, _, _, _, _, _, _, _, _, _, rfl, by omega, by omega, by omega, hG⟩
theorem app_in (p q s : List Int) (n : Int) : 0 ≤ appOf p q s n ∧ appOf p q s n ≤ 3 := by
  unfold appOf
  split
  · omega
  split
  · omega
  split <;> omega
theorem fold_le (f : Int → Int) : ∀ (l : List Int) (m : Int), (l.map f).foldl mn m ≤ m ∧ (∀ x ∈ l, (l.map f).foldl mn m ≤ f x) ∧ ((l.map f).foldl mn m = m ∨ ∃ x ∈ l, f x = (l.map f).foldl mn m)
  | [], m => ⟨Int.le_refl _, fun x h => by simp at h, .inl rfl⟩
  | y :: l, m => by
    obtain ⟨h1, h2, h3⟩ := fold_le f l (mn m (f y))
    simp only [List.map_cons, List.foldl_cons]
    have hm : mn m (f y) ≤ m ∧ mn m (f y) ≤ f y ∧ (mn m (f y) = m ∨ mn m (f y) = f y) := by
      unfold mn
      split <;> omega
    refine ⟨by omega, fun x hx => ?_, ?_⟩
    · rcases List.mem_cons.1 hx with rfl | hx
      · omega
      · exact h2 x hx
    · rcases h3 with h3 | ⟨x, hx, h3⟩
      · rcases hm.2.2 with e | e
        · left; omega
        · right; exact ⟨y, by simp, by omega⟩
      · right; exact ⟨x, by simp [hx], h3⟩
theorem fold_mono (f g : Int → Int) (l : List Int) (h : ∀ x ∈ l, f x ≤ g x) : (l.map f).foldl mn 3 ≤ (l.map g).foldl mn 3 := by
  obtain ⟨h1, h2, _⟩ := fold_le f l 3
  obtain ⟨_, _, g3⟩ := fold_le g l 3
  rcases g3 with e | ⟨x, hx, e⟩
  · omega
  · have := h2 x hx
    have := h x hx
    omega
theorem strict_log (p q s u v w l : List Int) (h : strict p q s u v w = true) (hl : isLog l = true) : (l.map (appOf p q s)).foldl mn 3 ≤ (l.map (appOf u v w)).foldl mn 3 := by
  refine fold_mono _ _ l (fun x hx => ?_)
  unfold isLog at hl
  split at hl
  · rename_i ha
    rw [List.all_eq_true] at ha
    obtain ⟨i, hi, rfl⟩ := List.mem_iff_getElem.1 hx
    have := of_decide_eq_true (ha i (List.mem_range.2 hi))
    rw [getD_get l i 0 hi] at this
    unfold strict at h
    rw [List.all_eq_true] at h
    have g := of_decide_eq_true (h (l[i]).toNat (List.mem_range.2 (by omega)))
    rw [show (((l[i]).toNat : Nat) : Int) = l[i] by omega] at g
    exact g
  · cases hl
theorem apEnd3 (a : Int) (p q s : List Int) (b : Int) (u v w : List Int) (h1 : p.length ≤ 8) (h2 : q.length ≤ 8) (h3 : s.length ≤ 8) (g1 : u.length ≤ 8) (g2 : v.length ≤ 8) (g3 : w.length ≤ 8) (k : Nat) (hk : 4194310 < k) : laws_FnAppraisal.j3 k false a p q s b u v w = some true := by
  obtain ⟨k, rfl⟩ : ∃ m, k = m + 1 := ⟨k - 1, by omega⟩
  simp only [laws_FnAppraisal.j3, replace2 a p q s b u v w (by omega) (by omega) (by omega) (by omega) (by omega) (by omega) k (by omega), isAllowed2 b u v w (by omega) (by omega) (by omega) k (by omega), Option.bind_some]
  rw [if_neg (by simp)]
  by_cases hA : isAllowed b u v w = true
  · by_cases h : b ≤ a
    · have R : replaceOk a b u v w = false := by unfold replaceOk; rw [hA, decide_eq_true h]; rfl
      have D : decide (b > a) = false := decide_eq_false (by omega)
      simp [R, hA, D]
    · have R : replaceOk a b u v w = true := by unfold replaceOk; rw [hA, decide_eq_false h]; rfl
      have D : decide (b > a) = true := decide_eq_true (by omega)
      simp [R, hA, D]
      omega
  · have hA' : isAllowed b u v w = false := Bool.eq_false_iff.2 hA
    have R : replaceOk a b u v w = false := by unfold replaceOk; rw [hA']; rfl
    simp [R, hA']
theorem apEnd2 (l : List Int) (hl : l.length ≤ 1048576) (a : Int) (p q s : List Int) (b : Int) (u v w : List Int) (h1 : p.length ≤ 8) (h2 : q.length ≤ 8) (h3 : s.length ≤ 8) (g1 : u.length ≤ 8) (g2 : v.length ≤ 8) (g3 : w.length ≤ 8) (k : Nat) (hk : 4194312 < k) : laws_FnAppraisal.j2 k l false a p q s b u v w = some true := by
  obtain ⟨k, rfl⟩ : ∃ m, k = m + 1 := ⟨k - 1, by omega⟩
  obtain ⟨g, p1, q1, s1, a1, b1, c1, d1, e1, f1, G, n, t, span, e, m1, m2, m3, m4⟩ := dHealth l hl k (by omega)
  have J := apEnd3 a p q s b u v w h1 h2 h3 g1 g2 g3 k (by omega)
  have HH := health2 g p1 q1 s1 a1 b1 c1 d1 e1 f1 G n t span (by omega) (by omega) (by omega) (by omega) k (by omega)
  have LL := log2 g p1 q1 s1 G (by omega) (by omega) (by omega) (by omega) k (by omega)
  simp only [laws_FnAppraisal.j2, e, HH, LL, holds2, Option.bind_some]
  rw [if_neg (by simp)]
  unfold health
  by_cases hc : checkQuote a1 b1 c1 d1 e1 f1 G n t 5 = true
  · rw [if_pos hc]
    by_cases hf : isFact 3 b1 ((G.map (appOf p1 q1 s1)).foldl mn 3) 1 t (endOf t span) = true
    · rw [if_pos hf]
      have hh : holds 3 b1 ((G.map (appOf p1 q1 s1)).foldl mn 3) 1 t (endOf t span) t 0 = true := by
        have hf' := hf
        unfold isFact at hf'
        simp only [Bool.and_eq_true] at hf'
        obtain ⟨_, _, ht, hu, hle⟩ := hf'
        have kt := of_decide_eq_true (show decide (0 ≤ t ∧ t ≤ 10000) = true from ht)
        have ku := of_decide_eq_true hle
        have ka : ageOf t t = 0 := by
          unfold ageOf
          rw [if_pos ht, if_pos ht, if_neg (by omega), Int.sub_self, wrap_in (by omega) (by omega)]
        unfold holds within fresh
        rw [hf, ht, hu, ka]
        simp
        omega
      simp only [if_true, hh, Bool.not_true]
      exact J
    · rw [if_neg hf]
      simp only [Bool.false_eq_true, if_false]
      exact J
  · rw [if_neg hc]
    simp only [Bool.false_eq_true, if_false]
    exact J
theorem apLoop (l : List Int) (hl : l.length ≤ 1048576) (a : Int) (p q s g : List Int) (h1 : p.length ≤ 8) (h2 : q.length ≤ 8) (h3 : s.length ≤ 8) (hg : g.length ≤ 8) (n : Int) : ∀ (b c : List Int) (found : Bool) (k : Nat), g = c ++ b → (∀ x ∈ b, n ≤ appOf p q s x) → (found = true ∨ ∃ x ∈ b, appOf p q s x = n) → 4194320 + b.length < k → laws_FnAppraisal.l0 k l g n found (c.length : Int) a p q s = some true := by
  intro b
  induction b with
  | nil =>
    intro c found k he hn hf hk
    obtain ⟨k, rfl⟩ : ∃ m, k = m + 1 := ⟨k - 1, by omega⟩
    have hlc : g.length = c.length := by rw [he]; simp
    obtain rfl : found = true := by
      rcases hf with h | ⟨x, hx, _⟩
      · exact h
      · simp at hx
    obtain ⟨a1, p1, q1, s1, b1, u1, v1, w1, e, m1, m2, m3, m4, m5, m6⟩ := dStricter l hl k (by simp at hk; omega)
    simp only [List.length_nil] at hk
    have J := apEnd2 l hl a1 p1 q1 s1 b1 u1 v1 w1 m1 m2 m3 m4 m5 m6 k (by omega)
    simp only [laws_FnAppraisal.l0]
    rw [if_neg (by omega)]
    simp only [e, Option.bind_some, if_true, stricter2 a1 p1 q1 s1 b1 u1 v1 w1 (by omega) (by omega) (by omega) (by omega) (by omega) (by omega) k (by omega), isLog2, log2 a1 p1 q1 s1 g (by omega) (by omega) (by omega) (by omega) k (by omega), log2 b1 u1 v1 w1 g (by omega) (by omega) (by omega) (by omega) k (by omega), J]
    by_cases hs : strict p1 q1 s1 u1 v1 w1 = true
    · rw [if_pos hs]
      by_cases hL : isLog g = true
      · rw [if_pos hL]
        have := strict_log p1 q1 s1 u1 v1 w1 g hs hL
        rw [decide_eq_false (by omega)]
        exact J
      · rw [if_neg hL]
    · rw [if_neg hs]
  | cons x r ih =>
    intro c found k he hn hf hk
    obtain ⟨k, rfl⟩ : ∃ m, k = m + 1 := ⟨k - 1, by omega⟩
    simp only [List.length_cons] at hk
    have hlc : g.length = c.length + (r.length + 1) := by rw [he]; simp
    have hx : rd g (c.length : Int) = x := by rw [rd_nat, he, getD_get _ _ _ (by simp), List.getElem_append_right (Nat.le_refl _)]; simp
    have hw : wrap64 ((c.length : Int) + 1) = (((c ++ [x]).length : Nat) : Int) := by rw [List.length_append, wrap_in (by omega) (by omega)]; simp
    have he' : g = (c ++ [x]) ++ r := by rw [he]; simp
    have hx0 := hn x (by simp)
    have hn' : ∀ y ∈ r, n ≤ appOf p q s y := fun y hy => hn y (by simp [hy])
    simp only [laws_FnAppraisal.l0, hx, one2 a p q s x (by omega) (by omega) (by omega) k (by omega), hw]
    rw [if_pos (by omega), if_pos (by omega), Option.bind_some, if_neg (by omega)]
    by_cases hfd : found = true
    · rw [if_pos hfd]
      exact ih (c ++ [x]) true k he' hn' (.inl rfl) (by omega)
    · rw [if_neg hfd]
      refine ih (c ++ [x]) _ k he' hn' ?_ (by omega)
      rcases hf with h | ⟨y, hy, h⟩
      · exact absurd h hfd
      · rcases List.mem_cons.1 hy with rfl | hy
        · left; rw [h]; exact beq_self_eq_true _
        · right; exact ⟨y, hy, h⟩
theorem FnAppraisal : laws_FnAppraisal.Pure := by
  intro l hw
  refine ⟨5000000, ?_⟩
  generalize hk : (5000000 : Nat) = k
  unfold laws_FnAppraisal.f laws_big.f
  rw [Option.bind_some]
  by_cases hl : (l.length : Int) > 1048576
  · rw [if_pos (decide_eq_true hl)]
  have hl' : l.length ≤ 1048576 := by omega
  rw [if_neg (by simpa using hl)]
  obtain ⟨a, p, q, s, g, e, h1, h2, h3, h4⟩ := dAppraise l hl' k (by omega)
  simp only [e, Option.bind_some, log2 a p q s g (by omega) (by omega) (by omega) (by omega) k (by omega)]
  obtain ⟨f1, f2, f3⟩ := fold_le (appOf p q s) g 3
  obtain ⟨k, rfl⟩ : ∃ m, k = m + 1 := ⟨k - 1, by omega⟩
  by_cases hz : (g.length : Int) = 0
  · rw [if_pos hz]
    obtain rfl : g = [] := List.eq_nil_of_length_eq_zero (by omega)
    simp only [laws_FnAppraisal.j0]
    exact apLoop l hl' a p q s [] h1 h2 h3 (by simp) 3 [] [] true k rfl (fun x hx => by simp at hx) (.inl rfl) (by simp; omega)
  · rw [if_neg hz]
    simp only [laws_FnAppraisal.j0]
    refine apLoop l hl' a p q s g h1 h2 h3 h4 _ g [] false k rfl f2 (.inr ?_) (by omega)
    rcases f3 with f3 | f3
    · obtain ⟨x, r, rfl⟩ : ∃ x r, g = x :: r := by
        cases g with
        | nil => simp at hz
        | cons x r => exact ⟨x, r, rfl⟩
      have := f2 x (by simp)
      have := (app_in p q s x).2
      exact ⟨x, by simp, by omega⟩
    · exact f3
end Go.Proofs.Ytlmhemcpkmjkiaa.Pure
