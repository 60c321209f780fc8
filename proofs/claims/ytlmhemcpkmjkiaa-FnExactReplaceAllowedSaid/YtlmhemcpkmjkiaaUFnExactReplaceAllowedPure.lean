/- FnExactReplaceAllowed: the program's ReplaceAllowed answers what the reference's answers, for all rules; it leaves what it is given, and what it returns is new memory. Conditions: none. -/
import Derived.Test.YtlmhemcpkmjkiaaUFnExactReplaceAllowedLib
import Derived.Test.YtlmhemcpkmjkiaaUFnExactReplaceAllowedx8
namespace Go.Proofs.Ytlmhemcpkmjkiaa.Pure
open Go.RowKit Go.Proofs.Ytlmhemcpkmjkiaa.XFnExactReplaceAllowed Go.Proofs.YtlmhemcpkmjkiaaW.PrintWords
set_option linter.unusedVariables false
set_option linter.unusedSimpArgs false
open Go.Proofs.YtlmhemcpkmjkiaaLib
theorem szInt (l : List Int) (a : Int) (h0 : 0 ≤ a) (h1 : a ≤ 1048576) (hl : l.length ≤ maxLen) : laws_szIntS.f l a = some (if (l.length : Int) ≤ a then a - (l.length : Int) else -1) := by
  unfold maxLen at hl
  unfold laws_szIntS.f
  rw [wrap_in (by omega) (by omega)]
  by_cases h : (l.length : Int) ≤ a
  · rw [if_pos h, if_neg (by omega)]
  · rw [if_neg h, if_pos (by omega)]
theorem toIntS (l : List Int) (hl : l.length ≤ 1099511627776) (k : Nat) (hk : l.length < k) : laws_toIntS.f k l = some l := by
  unfold laws_toIntS.f
  rw [if_pos (by omega), if_pos (by omega), Int.toNat_natCast]
  refine (run (fun k s i => laws_toIntS.l0 k l s i) (put (fun i => l.getD i 0) (List.replicate l.length 0)) l.length 0 l ?_ ?_ k (by omega))
  · intro k i _ hi
    have hlen : (put (fun i => l.getD i 0) (List.replicate l.length 0) i).length = l.length := by rw [put_length _ _ _ (by simp; omega), List.length_replicate]
    simp only [laws_toIntS.l0]
    rw [if_pos (by omega), if_pos (by omega), if_pos (by omega), wrap_succ hi hl, rd_nat, Int.toNat_natCast, put_set (fun i => l.getD i 0) _ i (by simp; omega)]
  · intro k _
    simp only [laws_toIntS.l0]
    rw [if_neg (by omega), put_all _ _ (by simp), map_range_getD']
theorem eqIntS_self (l : List Int) (hl : l.length ≤ 1099511627776) (k : Nat) (hk : l.length < k) : laws_eqIntS.f k l l = some true := by
  unfold laws_eqIntS.f
  rw [if_pos rfl]
  refine run (fun k (_ : Unit) i => laws_eqIntS.l0 k l l i) (fun _ => ()) l.length 0 true ?_ ?_ k (by omega)
  · intro k i _ hi
    simp only [laws_eqIntS.l0]
    rw [if_pos (by omega), if_pos (by omega), if_pos (by omega), if_pos trivial, wrap_succ hi hl]
  · intro k _
    simp only [laws_eqIntS.l0]
    rw [if_neg (by omega)]
def markedInt (a : Int) (n : Nat) : List Int := (List.range n).map (fun i : Nat => (a + (i : Int)))
theorem markInt (l : List Int) (hl : l.length ≤ 1099511627776) (a : Int) (ha : 0 ≤ a) (ha2 : a ≤ 1099511627776) (k : Nat) (hk : l.length < k) : laws_markIntS.f k l a = some (a + (l.length : Int), markedInt a l.length) := by
  unfold laws_markIntS.f
  have h := run (fun k (s : List Int × Int) i => laws_markIntS.l0 k s.1 s.2 i) (fun i => (put (fun i : Nat => (a + (i : Int))) l i, (a + (i : Int)))) l.length 0 (a + (l.length : Int), markedInt a l.length) ?_ ?_ k (by omega)
  · simpa [put_zero] using h
  · intro k i _ hi
    have hlen : (put (fun i : Nat => (a + (i : Int))) l i).length = l.length := put_length _ _ _ (by omega)
    have hlt : i < (put (fun i : Nat => (a + (i : Int))) l i).length := by omega
    have w0 : wrap64 ((a + (i : Int)) + 1) = (a + (i : Int)) + 1 := wrap_in (by omega) (by omega)
    have wn : (a + (i : Int)) + 1 = a + ((i + 1 : Nat) : Int) := by omega
    simp only [laws_markIntS.l0, Option.bind_some, Int.toNat_natCast]
    rw [if_pos (by omega), if_pos (by omega), wrap_succ hi hl]
    simp only [w0]
    rw [wn, put_set (fun i : Nat => (a + (i : Int))) l i (by omega)]
  · intro k _
    simp only [laws_markIntS.l0]
    rw [if_neg (by rw [put_length _ _ _ (Nat.le_refl _)]; omega), put_all _ _ rfl]
    rfl
theorem heldInt (n : Nat) (hl : n ≤ 1099511627776) (a : Int) (ha : 0 ≤ a) (ha2 : a ≤ 1099511627776) (k : Nat) (hk : n < k) : laws_heldIntS.f k (markedInt a n) a = some (a + (n : Int)) := by
  have hn : (markedInt a n).length = n := by simp [markedInt]
  unfold laws_heldIntS.f
  have h := run (fun k s i => laws_heldIntS.l0 k (markedInt a n) s i) (fun i => (a + (i : Int))) n 0 (a + (n : Int)) ?_ ?_ k (by omega)
  · simpa using h
  · intro k i _ hi
    have hg : (markedInt a n).getD i 0 = (fun i : Nat => (a + (i : Int))) i := getD_map_range (fun i : Nat => (a + (i : Int))) n i hi 0
    have w0 : wrap64 ((a + (i : Int)) + 1) = (a + (i : Int)) + 1 := wrap_in (by omega) (by omega)
    have wn : (a + (i : Int)) + 1 = a + ((i + 1 : Nat) : Int) := by omega
    simp only [laws_heldIntS.l0, rd_nat, hg]
    simp only [w0, if_true]
    rw [if_pos (by omega), if_pos (by omega), wrap_succ hi hl, wn]
  · intro k _
    simp only [laws_heldIntS.l0]
    rw [if_neg (by omega)]
theorem toAllowed (a : Int) (p q s : List Int) (h1 : p.length ≤ 1048576) (h2 : q.length ≤ 1048576) (h3 : s.length ≤ 1048576) (k : Nat) (hk : 1048576 < k) : laws_toAllowed.f k a p q s = some (a, p, q, s) := by
  simp only [laws_toAllowed.f, toIntS p (by omega) k (by omega), toIntS q (by omega) k (by omega), toIntS s (by omega) k (by omega), Option.bind_some]
theorem eqAllowed_self (a : Int) (p q s : List Int) (h1 : p.length ≤ 1048576) (h2 : q.length ≤ 1048576) (h3 : s.length ≤ 1048576) (k : Nat) (hk : 1048576 < k) : laws_eqAllowed.f k a p q s a p q s = some true := by
  simp only [laws_eqAllowed.f, eqIntS_self p (by omega) k (by omega), eqIntS_self q (by omega) k (by omega), eqIntS_self s (by omega) k (by omega), Option.bind_some, if_true]
theorem szAllowed (a : Int) (p q s : List Int) (n : Int) (h0 : 0 ≤ n) (hn : n ≤ 1048576) (h1 : p.length ≤ maxLen) (h2 : q.length ≤ maxLen) (h3 : s.length ≤ maxLen) : ∃ r, laws_szAllowed.f a p q s n = some r ∧ (r < 0 ∨ (0 ≤ r ∧ r ≤ 1048576 ∧ p.length ≤ 1048576 ∧ q.length ≤ 1048576 ∧ s.length ≤ 1048576)) := by
  unfold laws_szAllowed.f
  rw [szInt p n h0 hn h1, Option.bind_some]
  by_cases c1 : (p.length : Int) ≤ n
  · rw [if_pos c1, if_neg (by omega), szInt q _ (by omega) (by omega) h2, Option.bind_some]
    by_cases c2 : (q.length : Int) ≤ n - (p.length : Int)
    · rw [if_pos c2, if_neg (by omega), szInt s _ (by omega) (by omega) h3, Option.bind_some]
      by_cases c3 : (s.length : Int) ≤ n - (p.length : Int) - (q.length : Int)
      · rw [if_pos c3, if_neg (by omega)]
        exact ⟨_, rfl, Or.inr ⟨by omega, by omega, by omega, by omega, by omega⟩⟩
      · rw [if_neg c3, if_pos (by omega)]
        exact ⟨_, rfl, Or.inl (by omega)⟩
    · rw [if_neg c2, if_pos (by omega)]
      exact ⟨_, rfl, Or.inl (by omega)⟩
  · rw [if_neg c1, if_pos (by omega)]
    exact ⟨_, rfl, Or.inl (by omega)⟩
theorem in1 (x y z : Int) : spec_l1In.f x y z = some (decide (y ≤ x ∧ x ≤ z)) := by
  unfold spec_l1In.f
  by_cases h : x ≥ y
  · rw [if_pos h]; simp [show y ≤ x from h]
  · rw [if_neg h]; simp; omega
theorem in2 (x y z : Int) : impl_InRange.f x y z = some (decide (y ≤ x ∧ x ≤ z)) := by
  unfold impl_InRange.f
  by_cases h : y ≤ x
  · rw [if_pos h]; simp [h]
  · rw [if_neg h]; simp; omega
def has (l : List Int) (n : Int) : Bool := (List.range l.length).any fun i => l.getD i 0 == n
theorem index2 (l : List Int) (n : Int) (hl : l.length ≤ 1099511627776) (k : Nat) (hk : l.length < k) : slices_Index_int_int.f k l n = some (((List.range l.length).find? fun i => l.getD i 0 == n).elim (-1) fun i => (i : Int)) := by
  unfold slices_Index_int_int.f
  refine findLoop (fun k i => slices_Index_int_int.l0 k l n (l.length : Int) i) l.length 0 (fun i => l.getD i 0 == n) (fun i => (i : Int)) (-1) ?_ ?_ ?_ k (by omega)
  · intro k i _ hi hp
    have hp' : ¬ l.getD i 0 = n := by simpa using hp
    simp only [slices_Index_int_int.l0, rd_nat]
    rw [if_pos (by omega), if_pos (by omega), if_pos (by omega), if_neg (fun h => hp' h.symm), wrap_succ hi hl]
  · intro k i _ hi hp
    have hp' : l.getD i 0 = n := by simpa using hp
    simp only [slices_Index_int_int.l0, rd_nat]
    rw [if_pos (by omega), if_pos (by omega), if_pos (by omega), if_pos hp'.symm]
  · intro k _
    simp only [slices_Index_int_int.l0]
    rw [if_neg (by omega)]
theorem has2 (l : List Int) (n : Int) (hl : l.length ≤ 1099511627776) (k : Nat) (hk : l.length < k) : slices_Contains_int_int.f k l n = some (has l n) := by
  unfold slices_Contains_int_int.f has
  rw [index2 l n hl k hk, Option.bind_some]
  congr 1
  cases hf : (List.range l.length).find? fun i => l.getD i 0 == n with
  | none =>
    rw [List.find?_eq_none] at hf
    show decide ((-1 : Int) ≥ 0) = _
    rw [eq_comm, show decide ((-1 : Int) ≥ 0) = false from rfl, List.any_eq_false]
    exact hf
  | some i =>
    rw [List.find?_range_eq_some] at hf
    show decide ((i : Int) ≥ 0) = _
    rw [eq_comm, decide_eq_true (show (i : Int) ≥ 0 by omega), List.any_eq_true]
    exact ⟨i, hf.2.1, hf.1⟩
theorem has1 (l : List Int) (n : Int) (hl : l.length ≤ 1099511627776) (k : Nat) (hk : l.length < k) : spec_l13Has.f k l n = some (has l n) := by
  unfold spec_l13Has.f has
  rw [findLoop (fun k i => spec_l13Has.l0 k l n i) l.length 0 (fun i => l.getD i 0 == n) (fun _ => true) false ?_ ?_ ?_ k (by omega)]
  · congr 1
    cases hf : (List.range l.length).find? fun i => l.getD i 0 == n with
    | none =>
      rw [List.find?_eq_none] at hf
      rw [eq_comm, show Option.elim none false (fun _ : Nat => true) = false from rfl, List.any_eq_false]
      exact hf
    | some i =>
      rw [List.find?_range_eq_some] at hf
      rw [eq_comm, show Option.elim (some i) false (fun _ : Nat => true) = true from rfl, List.any_eq_true]
      exact ⟨i, hf.2.1, hf.1⟩
  · intro k i _ hi hp
    have hp' : ¬ l.getD i 0 = n := by simpa using hp
    simp only [spec_l13Has.l0, rd_nat]
    rw [if_pos (by omega), if_pos (by omega), if_neg hp', wrap_succ hi hl]
  · intro k i _ hi hp
    have hp' : l.getD i 0 = n := by simpa using hp
    simp only [spec_l13Has.l0, rd_nat]
    rw [if_pos (by omega), if_pos (by omega), if_pos hp']
  · intro k _
    simp only [spec_l13Has.l0]
    rw [if_neg (by omega)]
def ascAt (l : List Int) (lo hi : Int) (i : Nat) : Bool := decide (lo ≤ l.getD i 0 ∧ l.getD i 0 ≤ hi) && (decide (i = 0) || decide (l.getD (i - 1) 0 < l.getD i 0))
def asc (l : List Int) (lo hi : Int) : Bool := (List.range l.length).all (ascAt l lo hi)
theorem asc2 (l : List Int) (lo hi : Int) (hl : l.length ≤ 1099511627776) (k : Nat) (hk : l.length < k) : impl_isAscending.f k l lo hi = some (asc l lo hi) := by
  unfold impl_isAscending.f
  rw [allLoop (fun k i => impl_isAscending.l0 k l lo hi l (l.length : Int) i) l.length 0 (ascAt l lo hi) false true ?_ ?_ ?_ k (by omega)]
  · unfold asc
    cases (List.range l.length).all (ascAt l lo hi) <;> rfl
  · intro k i _ hi' hp
    simp only [ascAt, Bool.and_eq_true, Bool.or_eq_true, decide_eq_true_eq] at hp
    simp only [impl_isAscending.l0, in2, rd_nat, Option.bind_some, decide_eq_true_eq]
    rw [if_pos (by omega), if_pos (by omega), if_pos (by omega), if_pos hp.1, wrap_succ hi' hl]
    rcases Nat.eq_zero_or_pos i with h0 | h0
    · rw [if_neg (by omega)]
    · rw [if_pos (by omega), wrap_pred h0 hi' hl, rd_nat, if_pos (by omega), if_pos (by omega), if_neg (by omega)]
  · intro k i _ hi' hp
    simp only [impl_isAscending.l0, in2, rd_nat, Option.bind_some, decide_eq_true_eq]
    rw [if_pos (by omega), if_pos (by omega), if_pos (by omega)]
    by_cases h1 : lo ≤ l.getD i 0 ∧ l.getD i 0 ≤ hi
    · rw [if_pos h1]
      unfold ascAt at hp
      rw [decide_eq_true h1] at hp
      simp only [Bool.true_and, Bool.or_eq_false_iff, decide_eq_false_iff_not] at hp
      rw [if_pos (by omega), wrap_pred (by omega) hi' hl, rd_nat, if_pos (by omega), if_pos (by omega), if_pos (by omega)]
    · rw [if_neg h1]
  · intro k _
    simp only [impl_isAscending.l0]
    rw [if_neg (by omega)]
theorem list1 (l : List Int) (hl : l.length ≤ 1099511627776) (k : Nat) (hk : l.length < k) : spec_l13List.f k l = some (asc l 0 99 && decide ((l.length : Int) ≤ 8)) := by
  unfold spec_l13List.f
  rw [allLoop (fun k i => spec_l13List.l0 k l i) l.length 0 (ascAt l 0 99) false (decide ((l.length : Int) ≤ 8)) ?_ ?_ ?_ k (by omega)]
  · unfold asc
    cases (List.range l.length).all (ascAt l 0 99) <;> simp
  · intro k i _ hi' hp
    simp only [ascAt, Bool.and_eq_true, Bool.or_eq_true, decide_eq_true_eq] at hp
    simp only [spec_l13List.l0, in1, rd_nat, Option.bind_some, decide_eq_true_eq]
    rw [if_pos (by omega), if_pos (by omega), if_pos hp.1, wrap_succ hi' hl]
    rcases Nat.eq_zero_or_pos i with h0 | h0
    · rw [if_neg (by omega)]
    · rw [if_pos (by omega), wrap_pred h0 hi' hl, rd_nat, if_pos (by omega), if_pos (by omega), if_neg (by omega)]
  · intro k i _ hi' hp
    simp only [spec_l13List.l0, in1, rd_nat, Option.bind_some, decide_eq_true_eq]
    rw [if_pos (by omega), if_pos (by omega)]
    by_cases h1 : 0 ≤ l.getD i 0 ∧ l.getD i 0 ≤ 99
    · rw [if_pos h1]
      unfold ascAt at hp
      rw [decide_eq_true h1] at hp
      simp only [Bool.true_and, Bool.or_eq_false_iff, decide_eq_false_iff_not] at hp
      rw [if_pos (by omega), wrap_pred (by omega) hi' hl, rd_nat, if_pos (by omega), if_pos (by omega), if_pos (by omega)]
    · rw [if_neg h1]
  · intro k _
    simp only [spec_l13List.l0]
    rw [if_neg (by omega)]
def apart (p q : List Int) : Bool := (List.range p.length).all fun i => !has q (p.getD i 0)
theorem apart1 (p q : List Int) (hp : p.length ≤ 1048576) (hq : q.length ≤ 1048576) (k : Nat) (hk : 4194304 < k) : spec_l13Apart.f k p q = some (apart p q) := by
  unfold spec_l13Apart.f
  rw [allLoop (fun k i => spec_l13Apart.l0 k p q i) p.length 1048577 (fun i => !has q (p.getD i 0)) false true ?_ ?_ ?_ k (by omega)]
  · unfold apart
    cases (List.range p.length).all fun i => !has q (p.getD i 0) <;> rfl
  · intro k i hk hi' hg
    have hg' : has q (p.getD i 0) = false := by simpa using hg
    simp only [spec_l13Apart.l0, rd_nat]
    rw [if_pos (by omega), if_pos (by omega), has1 q _ (by omega) k (by omega), Option.bind_some, hg', if_neg (by simp), wrap_succ hi' (by omega)]
  · intro k i hk hi' hg
    have hg' : has q (p.getD i 0) = true := by simpa using hg
    simp only [spec_l13Apart.l0, rd_nat]
    rw [if_pos (by omega), if_pos (by omega), has1 q _ (by omega) k (by omega), Option.bind_some, hg', if_pos rfl]
  · intro k _
    simp only [spec_l13Apart.l0]
    rw [if_neg (by omega)]
theorem apart2 (p q : List Int) (hq : q.length ≤ 1048576) : impl_areApart.f p q = some (apart p q) := by
  unfold impl_areApart.f
  rw [if_pos (by omega)]
  congr 1
  unfold impl_areApart.idx apart
  cases hf : (List.range p.length).find? fun i => impl_areApart.out q (p.getD i 0) with
  | none =>
    rw [List.find?_eq_none] at hf
    show (!decide (0 ≤ (-1 : Int))) = _
    rw [show (!decide (0 ≤ (-1 : Int))) = true from rfl, eq_comm, List.all_eq_true]
    intro i hi
    have := hf i hi
    unfold impl_areApart.out impl_areApart.has at this
    unfold has
    simpa using this
  | some i =>
    rw [List.find?_range_eq_some] at hf
    show (!decide (0 ≤ (i : Int))) = _
    rw [decide_eq_true (show (0 : Int) ≤ (i : Int) by omega), eq_comm, show (!true) = false from rfl, List.all_eq_false]
    refine ⟨i, hf.2.1, ?_⟩
    have := hf.1
    unfold impl_areApart.out impl_areApart.has at this
    unfold has
    simpa using this
def listOk (l : List Int) : Bool := asc l 0 99 && decide ((l.length : Int) ≤ 8)
def isAllowed (a : Int) (p q s : List Int) : Bool := decide (0 ≤ a) && (listOk p && (listOk q && (listOk s && (apart p q && (apart p s && apart q s)))))
theorem isAllowed1 (a : Int) (p q s : List Int) (h1 : p.length ≤ 1048576) (h2 : q.length ≤ 1048576) (h3 : s.length ≤ 1048576) (k : Nat) (hk : 4194304 < k) : spec_IsAllowed.f k a p q s = some (isAllowed a p q s) := by
  simp only [spec_IsAllowed.f, list1 p (by omega) k (by omega), list1 q (by omega) k (by omega), list1 s (by omega) k (by omega), apart1 p q h1 h2 k hk, apart1 p s h1 h3 k hk, apart1 q s h2 h3 k hk, Option.bind_some, ite_and]
  unfold isAllowed listOk
  by_cases h : 0 ≤ a
  · rw [if_pos (show a ≥ 0 from h), decide_eq_true h, Bool.true_and]
  · rw [if_neg (show ¬ a ≥ 0 from h), decide_eq_false h, Bool.false_and]
theorem rdA (L : List (List Int)) (i : Nat) : rd_L1 L (i : Int) = L.getD i [] := by
  unfold rd_L1
  rw [Int.toNat_natCast]
theorem allowedRound (L : List (List Int)) (hL : ∀ x ∈ L, x.length ≤ 1048576) (hn : L.length ≤ 1048576) (a : Int) (p q s : List Int) (k i : Nat) (hk : 1048577 < k) (hi : i < L.length) : impl_IsAllowed.l0 (k + 1) L (L.length : Int) (i : Int) a p q s = if listOk (L.getD i []) = true then impl_IsAllowed.l0 k L (L.length : Int) ((i + 1 : Nat) : Int) a p q s else some false := by
  simp only [impl_IsAllowed.l0, rdA]
  have hx := hL _ (getD_mem L i [] hi)
  rw [if_pos (by omega), if_pos (by omega), if_pos (by omega), asc2 _ 0 99 (by omega) k (by omega), Option.bind_some, wrap_succ hi (by omega)]
  unfold listOk
  by_cases h : ((L.getD i []).length : Int) ≤ 8
  · rw [if_neg (by omega), decide_eq_true h, Bool.and_true]
  · rw [if_pos (by omega), decide_eq_false h, Bool.and_false, if_neg (by simp)]
theorem isAllowed2 (a : Int) (p q s : List Int) (h1 : p.length ≤ 1048576) (h2 : q.length ≤ 1048576) (h3 : s.length ≤ 1048576) (k : Nat) (hk : 4194304 < k) : impl_IsAllowed.f k a p q s = some (isAllowed a p q s) := by
  obtain ⟨k, rfl⟩ : ∃ j, k = j + 1 + 1 + 1 + 1 := ⟨k - 4, by omega⟩
  unfold impl_IsAllowed.f
  rw [Option.bind_some]
  have hL : ∀ x ∈ [p, q, s], x.length ≤ 1048576 := by
    intro x hx
    simp only [List.mem_cons, List.not_mem_nil, or_false] at hx
    rcases hx with rfl | rfl | rfl <;> assumption
  have r0 := allowedRound [p, q, s] hL (by simp) a p q s (k + 1 + 1 + 1) 0 (by omega) (by simp)
  have r1 := allowedRound [p, q, s] hL (by simp) a p q s (k + 1 + 1) 1 (by omega) (by simp)
  have r2 := allowedRound [p, q, s] hL (by simp) a p q s (k + 1) 2 (by omega) (by simp)
  have r3 : impl_IsAllowed.l0 (k + 1) [p, q, s] (([p, q, s] : List (List Int)).length : Int) (((2 + 1 : Nat)) : Int) a p q s = some (decide (0 ≤ a) && (apart p q && (apart p s && apart q s))) := by
    simp only [impl_IsAllowed.l0, apart2 p q h2, apart2 p s h3, apart2 q s h3, Option.bind_some, ite_and]
    rw [if_neg (by simp)]
    by_cases h : 0 ≤ a
    · rw [if_pos (show a ≥ 0 from h), decide_eq_true h, Bool.true_and]
    · rw [if_neg (show ¬ a ≥ 0 from h), decide_eq_false h, Bool.false_and]
  rw [show (0 : Int) = ((0 : Nat) : Int) from rfl, r0]
  show (if listOk p = true then _ else _) = _
  rw [show (0 + 1 : Nat) = 1 from rfl, r1]
  show (if listOk p = true then (if listOk q = true then _ else _) else _) = _
  rw [show (1 + 1 : Nat) = 2 from rfl, r2]
  show (if listOk p = true then (if listOk q = true then (if listOk s = true then _ else _) else _) else _) = _
  rw [r3]
  unfold isAllowed
  cases listOk p
  · simp
  cases listOk q
  · simp
  cases listOk s <;> simp
theorem copy1 (a : Int) (p q s : List Int) (h1 : p.length ≤ 1048576) (h2 : q.length ≤ 1048576) (h3 : s.length ≤ 1048576) : spec_l13Copy.f a p q s = some (a, p, q, s) := by
  unfold spec_l13Copy.f
  rw [Option.bind_some, if_pos (by simp; omega), Option.bind_some, if_pos (by simp; omega), Option.bind_some, if_pos (by simp; omega)]
  rfl
theorem copy2 (a : Int) (p q s : List Int) (h1 : p.length ≤ 1048576) (h2 : q.length ≤ 1048576) (h3 : s.length ≤ 1048576) : impl_copyAllowed.f a p q s = some (a, p, q, s) := by
  unfold impl_copyAllowed.f
  rw [Option.bind_some, if_pos (by simp; omega), Option.bind_some, if_pos (by simp; omega), Option.bind_some, if_pos (by simp; omega)]
  rfl
def replaceOk (a b : Int) (p q s : List Int) : Bool := isAllowed b p q s && !decide (b ≤ a)
theorem replace1 (a : Int) (p q s : List Int) (b : Int) (p' q' s' : List Int) (h1 : p.length ≤ 1048576) (h2 : q.length ≤ 1048576) (h3 : s.length ≤ 1048576) (g1 : p'.length ≤ 1048576) (g2 : q'.length ≤ 1048576) (g3 : s'.length ≤ 1048576) (k : Nat) (hk : 4194305 < k) :
    spec_ReplaceAllowed.f k a p q s b p' q' s' = some (if replaceOk a b p' q' s' = true then (b, p', q', s', true) else (a, p, q, s, false)) := by
  obtain ⟨k, rfl⟩ : ∃ m, k = m + 1 := ⟨k - 1, by omega⟩
  simp only [spec_ReplaceAllowed.f, spec_ReplaceAllowed.j0, isAllowed1 b p' q' s' g1 g2 g3 (k + 1) (by omega), copy1 a p q s h1 h2 h3, copy1 b p' q' s' g1 g2 g3, Option.bind_some]
  unfold replaceOk
  cases isAllowed b p' q' s'
  · rfl
  · cases decide (b ≤ a) <;> rfl
theorem replace2 (a : Int) (p q s : List Int) (b : Int) (p' q' s' : List Int) (h1 : p.length ≤ 1048576) (h2 : q.length ≤ 1048576) (h3 : s.length ≤ 1048576) (g1 : p'.length ≤ 1048576) (g2 : q'.length ≤ 1048576) (g3 : s'.length ≤ 1048576) (k : Nat) (hk : 4194305 < k) :
    impl_ReplaceAllowed.f k a p q s b p' q' s' = some (if replaceOk a b p' q' s' = true then (b, p', q', s', true) else (a, p, q, s, false)) := by
  obtain ⟨k, rfl⟩ : ∃ m, k = m + 1 := ⟨k - 1, by omega⟩
  simp only [impl_ReplaceAllowed.f, impl_ReplaceAllowed.j0, isAllowed2 b p' q' s' g1 g2 g3 (k + 1) (by omega), copy2 a p q s h1 h2 h3, copy2 b p' q' s' g1 g2 g3, Option.bind_some]
  unfold replaceOk
  cases isAllowed b p' q' s'
  · rfl
  · cases decide (b ≤ a) <;> rfl
theorem markAllowed (a : Int) (p q s : List Int) (h1 : p.length ≤ 1048576) (h2 : q.length ≤ 1048576) (h3 : s.length ≤ 1048576) (n : Int) (h0 : 0 ≤ n) (hn : n ≤ 10000000) (k : Nat) (hk : 1048577 < k) : laws_markAllowed.f k a p q s n = some (n + (p.length : Int) + (q.length : Int) + (s.length : Int), markedInt n p.length, markedInt (n + (p.length : Int)) q.length, markedInt (n + (p.length : Int) + (q.length : Int)) s.length) := by
  simp only [laws_markAllowed.f, markInt p (by omega) n h0 (by omega) k (by omega), markInt q (by omega) (n + (p.length : Int)) (by omega) (by omega) k (by omega), markInt s (by omega) (n + (p.length : Int) + (q.length : Int)) (by omega) (by omega) k (by omega), Option.bind_some]
theorem heldAllowed (a : Int) (p q s : Nat) (h1 : p ≤ 1048576) (h2 : q ≤ 1048576) (h3 : s ≤ 1048576) (n : Int) (h0 : 0 ≤ n) (hn : n ≤ 10000000) (k : Nat) (hk : 1048577 < k) : laws_heldAllowed.f k a (markedInt n p) (markedInt (n + (p : Int)) q) (markedInt (n + (p : Int) + (q : Int)) s) n = some (n + (p : Int) + (q : Int) + (s : Int)) := by
  have n1 : ¬ n + (p : Int) < 0 := by omega
  have n2 : ¬ n + (p : Int) + (q : Int) < 0 := by omega
  have n3 : ¬ n + (p : Int) + (q : Int) + (s : Int) < 0 := by omega
  simp only [laws_heldAllowed.f, heldInt p (by omega) n h0 (by omega) k (by omega), heldInt q (by omega) (n + (p : Int)) (by omega) (by omega) k (by omega), heldInt s (by omega) (n + (p : Int) + (q : Int)) (by omega) (by omega) k (by omega), Option.bind_some, if_neg n1, if_neg n2, if_neg n3]
theorem FnExactReplaceAllowed : laws_FnExactReplaceAllowed.Pure := by
  intro a p q s b p' q' s' _ hp hq hs _ hp' hq' hs'
  suffices h : ∀ k, 4194305 < k → laws_FnExactReplaceAllowed.f k a p q s b p' q' s' = some true from ⟨4194306, h _ (by omega)⟩
  intro k hk
  unfold laws_FnExactReplaceAllowed.f
  obtain ⟨r, hr, hc⟩ := szAllowed a p q s 1048576 (by omega) (by omega) hp.1 hq.1 hs.1
  rw [hr, Option.bind_some]
  by_cases hn : r < 0
  · rw [if_pos hn]
  obtain ⟨r0, r1, h1, h2, h3⟩ := hc.resolve_left hn
  rw [if_neg hn]
  obtain ⟨r', hr', hc'⟩ := szAllowed b p' q' s' r r0 r1 hp'.1 hq'.1 hs'.1
  rw [hr', Option.bind_some]
  by_cases hn' : r' < 0
  · rw [if_pos hn']
  obtain ⟨_, _, g1, g2, g3⟩ := hc'.resolve_left hn'
  rw [if_neg hn']
  have R1 := replace1 a p q s b p' q' s' h1 h2 h3 g1 g2 g3 k hk
  have R2 := replace2 a p q s b p' q' s' h1 h2 h3 g1 g2 g3 k hk
  have TA := toAllowed a p q s h1 h2 h3 k (by omega)
  have TB := toAllowed b p' q' s' g1 g2 g3 k (by omega)
  have EA := eqAllowed_self a p q s h1 h2 h3 k (by omega)
  have EB := eqAllowed_self b p' q' s' g1 g2 g3 k (by omega)
  have M0 := markAllowed a p q s h1 h2 h3 1 (by omega) (by omega) k (by omega)
  have M1 := markAllowed b p' q' s' g1 g2 g3 (1 + (p.length : Int) + (q.length : Int) + (s.length : Int)) (by omega) (by omega) k (by omega)
  have n1 : ¬ 1 + (p.length : Int) + (q.length : Int) + (s.length : Int) + (p'.length : Int) + (q'.length : Int) + (s'.length : Int) < 0 := by omega
  have FIN : ∀ (c : Int) (x y z : List Int) (t : Bool), x.length ≤ 1048576 → y.length ≤ 1048576 → z.length ≤ 1048576 → laws_eqAllowed.f k c x y z c x y z = some true ∧ laws_markAllowed.f k c x y z 1 = some (1 + (x.length : Int) + (y.length : Int) + (z.length : Int), markedInt 1 x.length, markedInt (1 + (x.length : Int)) y.length, markedInt (1 + (x.length : Int) + (y.length : Int)) z.length) ∧ laws_heldAllowed.f k c (markedInt 1 x.length) (markedInt (1 + (x.length : Int)) y.length) (markedInt (1 + (x.length : Int) + (y.length : Int)) z.length) 1 = some (1 + (x.length : Int) + (y.length : Int) + (z.length : Int)) ∧ ¬ 1 + (x.length : Int) + (y.length : Int) + (z.length : Int) < 0 :=
    fun c x y z t e1 e2 e3 => ⟨eqAllowed_self c x y z e1 e2 e3 k (by omega), markAllowed c x y z e1 e2 e3 1 (by omega) (by omega) k (by omega), heldAllowed c x.length y.length z.length e1 e2 e3 1 (by omega) (by omega) k (by omega), by omega⟩
  by_cases hok : replaceOk a b p' q' s' = true
  · obtain ⟨F1, F2, F3, F4⟩ := FIN b p' q' s' true g1 g2 g3
    rw [if_pos hok] at R1 R2
    simp only [TA, TB, R1, R2, EA, EB, M0, M1, F1, F2, F3, if_neg n1, if_neg F4, Option.bind_some, if_true]
  · obtain ⟨F1, F2, F3, F4⟩ := FIN a p q s false h1 h2 h3
    rw [if_neg hok] at R1 R2
    simp only [TA, TB, R1, R2, EA, EB, M0, M1, F1, F2, F3, if_neg n1, if_neg F4, Option.bind_some, if_true]
end Go.Proofs.Ytlmhemcpkmjkiaa.Pure
