/- FnExactMergeRevoked: the program's MergeRevoked answers what the reference's answers, for all lists; it leaves what it is given, and what it returns is new memory. Conditions: none. -/
import Derived.Test.YtgmgoabohppkeaaLib
import Derived.Test.YtgmgoabohppkeaaXFnExactMergeRevokedx7
namespace Go.Proofs.Ytgmgoabohppkeaa.Pure
open Go.RowKit Go.Proofs.Ytgmgoabohppkeaa.XFnExactMergeRevoked Go.Proofs.YtgmgoabohppkeaaW.PrintWords
set_option linter.unusedVariables false
set_option linter.unusedSimpArgs false
open Go.Proofs.YtgmgoabohppkeaaLib
theorem in1 (x y z : Int) : spec_l1In.f x y z = some (decide (y ≤ x ∧ x ≤ z)) := by
  unfold spec_l1In.f
  by_cases h : x ≥ y
  · rw [if_pos h]; simp [show y ≤ x from h]
  · rw [if_neg h]; simp; omega
theorem in2 (x y z : Int) : impl_InRange.f x y z = some (decide (y ≤ x ∧ x ≤ z)) := by
  unfold impl_InRange.f
  by_cases h : y ≤ x
  · rw [if_pos h]; simp [h]
  · rw [if_neg h]; simp; omega
theorem rdT97 (l : List S97) (i : Nat) : rd_T97 l (i : Int) = l.getD i z97 := by
  unfold rd_T97
  rw [Int.toNat_natCast]
theorem rdT94 (l : List S94) (i : Nat) : rd_T94 l (i : Int) = l.getD i z94 := by
  unfold rd_T94
  rw [Int.toNat_natCast]
theorem szRevoked (l : List S97) (a : Int) (h0 : 0 ≤ a) (h1 : a ≤ 1048576) (hl : l.length ≤ maxLen) : laws_szRevokedS.f l a = some (if (l.length : Int) ≤ a then a - (l.length : Int) else -1) := by
  unfold maxLen at hl
  unfold laws_szRevokedS.f
  rw [wrap_in (by omega) (by omega)]
  by_cases h : (l.length : Int) ≤ a
  · rw [if_pos h, if_neg (by omega)]
  · rw [if_neg h, if_pos (by omega)]
def cvRevoked (x : S97) : S94 := ⟨x.f0, x.f1⟩
theorem toRevoked (l : List S97) (hl : l.length ≤ 1048576) (k : Nat) (hk : l.length < k) : laws_toRevokedS.f k l = some (l.map cvRevoked) := by
  unfold laws_toRevokedS.f
  rw [if_pos (by omega), if_pos (by omega), Int.toNat_natCast]
  refine (run (fun k s i => laws_toRevokedS.l0 k l s i) (put (fun i => (⟨(l.getD i z97).f0, (l.getD i z97).f1⟩ : S94)) (List.replicate l.length z94)) l.length 0 (l.map cvRevoked) ?_ ?_ k (by omega))
  · intro k i _ hi
    have hlen : (put (fun i => (⟨(l.getD i z97).f0, (l.getD i z97).f1⟩ : S94)) (List.replicate l.length z94) i).length = l.length := by rw [put_length _ _ _ (by simp; omega), List.length_replicate]
    simp only [laws_toRevokedS.l0, laws_toRevoked.f, Option.bind_some, rdT97]
    rw [if_pos (by omega), if_pos (by omega), if_pos (by omega), wrap_succ hi (by omega), Int.toNat_natCast, put_set (fun i => (⟨(l.getD i z97).f0, (l.getD i z97).f1⟩ : S94)) _ i (by simp; omega)]
  · intro k _
    simp only [laws_toRevokedS.l0]
    rw [if_neg (by omega), put_all _ _ (by simp), map_range_getD l z97 (fun x => (⟨x.f0, x.f1⟩ : S94))]
    rfl
theorem eqRevoked_self (l : List S94) (hl : l.length ≤ 1099511627776) (k : Nat) (hk : l.length < k) : laws_eqRevokedS.f k l l = some true := by
  unfold laws_eqRevokedS.f
  rw [if_pos rfl]
  refine run (fun k (_ : Unit) i => laws_eqRevokedS.l0 k l l i) (fun _ => ()) l.length 0 true ?_ ?_ k (by omega)
  · intro k i _ hi
    simp only [laws_eqRevokedS.l0, laws_eqRevoked.f, Option.bind_some, if_true]
    rw [if_pos (by omega), if_pos (by omega), if_pos (by omega), wrap_succ hi hl]
  · intro k _
    simp only [laws_eqRevokedS.l0]
    rw [if_neg (by omega)]
def markedRevoked (a : Int) (n : Nat) : List S94 := (List.range n).map (fun i : Nat => (⟨(a + 2 * (i : Int)), (a + 2 * (i : Int)) + 1⟩ : S94))
theorem markRevoked (l : List S94) (hl : l.length ≤ 1099511627776) (a : Int) (ha : 0 ≤ a) (ha2 : a ≤ 1099511627776) (k : Nat) (hk : l.length < k) : laws_markRevokedS.f k l a = some (a + 2 * (l.length : Int), markedRevoked a l.length) := by
  unfold laws_markRevokedS.f
  have h := run (fun k (s : List S94 × Int) i => laws_markRevokedS.l0 k s.1 s.2 i) (fun i => (put (fun i : Nat => (⟨(a + 2 * (i : Int)), (a + 2 * (i : Int)) + 1⟩ : S94)) l i, (a + 2 * (i : Int)))) l.length 0 (a + 2 * (l.length : Int), markedRevoked a l.length) ?_ ?_ k (by omega)
  · simpa [put_zero] using h
  · intro k i _ hi
    have hlen : (put (fun i : Nat => (⟨(a + 2 * (i : Int)), (a + 2 * (i : Int)) + 1⟩ : S94)) l i).length = l.length := put_length _ _ _ (by omega)
    have hlt : i < (put (fun i : Nat => (⟨(a + 2 * (i : Int)), (a + 2 * (i : Int)) + 1⟩ : S94)) l i).length := by omega
    have w0 : wrap64 ((a + 2 * (i : Int)) + 1) = (a + 2 * (i : Int)) + 1 := wrap_in (by omega) (by omega)
    have w1 : wrap64 ((a + 2 * (i : Int)) + 1 + 1) = (a + 2 * (i : Int)) + 1 + 1 := wrap_in (by omega) (by omega)
    have wn : (a + 2 * (i : Int)) + 1 + 1 = a + 2 * ((i + 1 : Nat) : Int) := by omega
    simp only [laws_markRevokedS.l0, Option.bind_some, Int.toNat_natCast, rdT94, List.set_set, getD_set_self _ _ _ _ hlt]
    rw [if_pos (by omega), if_pos (by omega), wrap_succ hi hl]
    simp only [w0, w1]
    rw [wn, put_set (fun i : Nat => (⟨(a + 2 * (i : Int)), (a + 2 * (i : Int)) + 1⟩ : S94)) l i (by omega)]
  · intro k _
    simp only [laws_markRevokedS.l0]
    rw [if_neg (by rw [put_length _ _ _ (Nat.le_refl _)]; omega), put_all _ _ rfl]
    rfl
theorem heldRevoked (n : Nat) (hl : n ≤ 1099511627776) (a : Int) (ha : 0 ≤ a) (ha2 : a ≤ 1099511627776) (k : Nat) (hk : n < k) : laws_heldRevokedS.f k (markedRevoked a n) a = some (a + 2 * (n : Int)) := by
  have hn : (markedRevoked a n).length = n := by simp [markedRevoked]
  unfold laws_heldRevokedS.f
  have h := run (fun k s i => laws_heldRevokedS.l0 k (markedRevoked a n) s i) (fun i => (a + 2 * (i : Int))) n 0 (a + 2 * (n : Int)) ?_ ?_ k (by omega)
  · simpa using h
  · intro k i _ hi
    have hg : (markedRevoked a n).getD i z94 = (fun i : Nat => (⟨(a + 2 * (i : Int)), (a + 2 * (i : Int)) + 1⟩ : S94)) i := getD_map_range (fun i : Nat => (⟨(a + 2 * (i : Int)), (a + 2 * (i : Int)) + 1⟩ : S94)) n i hi z94
    have w0 : wrap64 ((a + 2 * (i : Int)) + 1) = (a + 2 * (i : Int)) + 1 := wrap_in (by omega) (by omega)
    have w1 : wrap64 ((a + 2 * (i : Int)) + 1 + 1) = (a + 2 * (i : Int)) + 1 + 1 := wrap_in (by omega) (by omega)
    have wn : (a + 2 * (i : Int)) + 1 + 1 = a + 2 * ((i + 1 : Nat) : Int) := by omega
    simp only [laws_heldRevokedS.l0, rdT94, hg]
    simp only [w0, w1, if_true]
    rw [if_pos (by omega), if_pos (by omega), wrap_succ hi hl, wn]
  · intro k _
    simp only [laws_heldRevokedS.l0]
    rw [if_neg (by omega)]
def badRevoked (l : List S94) (i : Nat) : Bool :=
  decide (1 ≤ (l.getD i z94).f0 ∧ (l.getD i z94).f0 ≤ 9999) && decide (0 ≤ (l.getD i z94).f1 ∧ (l.getD i z94).f1 ≤ 10000) && (decide (i = 0) || decide ((l.getD (i - 1) z94).f0 < (l.getD i z94).f0))
def areRevoked (l : List S94) : Bool := if (List.range l.length).all (badRevoked l) = true then decide ((l.length : Int) ≤ 40) else false
theorem areRevoked1 (l : List S94) (hl : l.length ≤ 1099511627776) (k : Nat) (hk : l.length < k) : spec_AreRevoked.f k l = some (areRevoked l) := by
  unfold spec_AreRevoked.f
  refine allLoop (fun k i => spec_AreRevoked.l0 k l i) l.length 0 (badRevoked l) false (decide ((l.length : Int) ≤ 40)) ?_ ?_ ?_ k (by omega)
  · intro k i _ hi hp
    simp only [badRevoked, Bool.and_eq_true, Bool.or_eq_true, decide_eq_true_eq] at hp
    obtain ⟨⟨hp1, hp2⟩, hp3⟩ := hp
    simp only [spec_AreRevoked.l0, in1, spec_IsTime.f, rdT94, Option.bind_some, decide_eq_true_eq]
    rw [if_pos (by omega), if_pos (by omega), if_pos hp1, if_pos hp2, wrap_succ hi hl]
    rcases Nat.eq_zero_or_pos i with h0 | h0
    · rw [if_neg (by omega)]
    · have hw : wrap64 ((i : Int) - 1) = ((i - 1 : Nat) : Int) := by unfold wrap64; omega
      rw [if_pos (by omega), hw, rdT94, if_pos (by omega), if_pos (by omega), if_neg (by omega)]
  · intro k i _ hi hp
    simp only [spec_AreRevoked.l0, in1, spec_IsTime.f, rdT94, Option.bind_some, decide_eq_true_eq]
    rw [if_pos (by omega), if_pos (by omega)]
    by_cases hp1 : 1 ≤ (l.getD i z94).f0 ∧ (l.getD i z94).f0 ≤ 9999
    · rw [if_pos hp1]
      by_cases hp2 : 0 ≤ (l.getD i z94).f1 ∧ (l.getD i z94).f1 ≤ 10000
      · rw [if_pos hp2]
        have h0 : 0 < i := by
          rcases Nat.eq_zero_or_pos i with h0 | h0
          · unfold badRevoked at hp
            rw [decide_eq_true hp1, decide_eq_true hp2, decide_eq_true h0] at hp
            simp at hp
          · exact h0
        have hw : wrap64 ((i : Int) - 1) = ((i - 1 : Nat) : Int) := by unfold wrap64; omega
        have hq : (l.getD i z94).f0 ≤ (l.getD (i - 1) z94).f0 := by
          simp only [badRevoked, hp1, hp2, and_self, decide_true, Bool.true_and, Bool.or_eq_false_iff, decide_eq_false_iff_not] at hp
          omega
        rw [if_pos (by omega), hw, rdT94, if_pos (by omega), if_pos (by omega), if_pos hq]
      · rw [if_neg hp2]
    · rw [if_neg hp1]
  · intro k _
    simp only [spec_AreRevoked.l0]
    rw [if_neg (by omega)]
theorem areRevoked2 (l : List S94) (hl : l.length ≤ 1099511627776) (k : Nat) (hk : l.length < k) : impl_AreRevoked.f k l = some (areRevoked l) := by
  unfold impl_AreRevoked.f
  refine allLoop (fun k i => impl_AreRevoked.l0 k l l (l.length : Int) i) l.length 0 (badRevoked l) false (decide ((l.length : Int) ≤ 40)) ?_ ?_ ?_ k (by omega)
  · intro k i _ hi hp
    simp only [badRevoked, Bool.and_eq_true, Bool.or_eq_true, decide_eq_true_eq] at hp
    obtain ⟨⟨hp1, hp2⟩, hp3⟩ := hp
    simp only [impl_AreRevoked.l0, in2, impl_IsTime.f, rdT94, Option.bind_some, decide_eq_true_eq]
    rw [if_pos (by omega), if_pos (by omega), if_pos (by omega), if_pos hp1, if_pos hp2, wrap_succ hi hl]
    rcases Nat.eq_zero_or_pos i with h0 | h0
    · rw [if_neg (by omega)]
    · have hw : wrap64 ((i : Int) - 1) = ((i - 1 : Nat) : Int) := by unfold wrap64; omega
      rw [if_pos (by omega), hw, rdT94, if_pos (by omega), if_pos (by omega), if_neg (by omega)]
  · intro k i _ hi hp
    simp only [impl_AreRevoked.l0, in2, impl_IsTime.f, rdT94, Option.bind_some, decide_eq_true_eq]
    rw [if_pos (by omega), if_pos (by omega), if_pos (by omega)]
    by_cases hp1 : 1 ≤ (l.getD i z94).f0 ∧ (l.getD i z94).f0 ≤ 9999
    · rw [if_pos hp1]
      by_cases hp2 : 0 ≤ (l.getD i z94).f1 ∧ (l.getD i z94).f1 ≤ 10000
      · rw [if_pos hp2]
        have h0 : 0 < i := by
          rcases Nat.eq_zero_or_pos i with h0 | h0
          · unfold badRevoked at hp
            rw [decide_eq_true hp1, decide_eq_true hp2, decide_eq_true h0] at hp
            simp at hp
          · exact h0
        have hw : wrap64 ((i : Int) - 1) = ((i - 1 : Nat) : Int) := by unfold wrap64; omega
        have hq : (l.getD i z94).f0 ≤ (l.getD (i - 1) z94).f0 := by
          simp only [badRevoked, hp1, hp2, and_self, decide_true, Bool.true_and, Bool.or_eq_false_iff, decide_eq_false_iff_not] at hp
          omega
        rw [if_pos (by omega), hw, rdT94, if_pos (by omega), if_pos (by omega), if_pos hq]
      · rw [if_neg hp2]
    · rw [if_neg hp1]
  · intro k _
    simp only [impl_AreRevoked.l0]
    rw [if_neg (by omega)]
def tOk (t : Int) : Bool := decide (0 ≤ t ∧ t ≤ 10000)
def addOne (s t : Int) (x : S94) : S94 := if x.f0 = s then ⟨x.f0, mn x.f1 t⟩ else x
def addS (s t : Int) : List S94 → Bool → List S94
  | [], seen => if seen = true then [] else [⟨s, t⟩]
  | x :: r, seen => if seen = false ∧ s < x.f0 then ⟨s, t⟩ :: addOne s t x :: addS s t r true else addOne s t x :: addS s t r (seen || decide (x.f0 = s))
def addFin (l : List S94) (t : Int) (out : List S94) : List S94 × Bool := if areRevoked l = true then (if areRevoked out = true then (if tOk t = true then (out, true) else (l, false)) else (l, false)) else (l, false)
theorem addS_true (s t : Int) (r : List S94) : (addS s t r true).length = r.length := by
  induction r with
  | nil => rfl
  | cons x r ih => simp [addS, ih]
theorem addS_len (s t : Int) (r : List S94) : (addS s t r false).length ≤ r.length + 1 := by
  induction r with
  | nil => simp [addS]
  | cons x r ih =>
    unfold addS
    split
    · simp only [List.length_cons, addS_true]; omega
    · simp only [List.length_cons, Bool.false_or]
      by_cases h : x.f0 = s
      · rw [decide_eq_true h, addS_true]; omega
      · rw [decide_eq_false h]; omega
theorem addFin_len (l : List S94) (t : Int) (out : List S94) (h : out.length ≤ l.length + 1) : (addFin l t out).1.length ≤ l.length + 1 := by
  unfold addFin
  split
  · split
    · split
      · exact h
      · exact Nat.le_succ _
    · exact Nat.le_succ _
  · exact Nat.le_succ _
theorem minR (a b : Int) : spec_Min.f a b = some (mn a b) := by
  unfold spec_Min.f mn
  split <;> rfl
theorem addEnd (l out : List S94) (t : Int) (hl : l.length ≤ 1048576) (ho : out.length ≤ 8000000) (k : Nat) (h1 : l.length + 1 < k) (h2 : out.length + 1 < k) : spec_AddRevoked.j2 k l t out = some (addFin l t out) := by
  obtain ⟨k, rfl⟩ : ∃ m, k = m + 1 := ⟨k - 1, by omega⟩
  have hlim : (l.length < 8796093022208) = True := eq_true (by omega)
  simp only [spec_AddRevoked.j2, areRevoked1 l (by omega) k (by omega), areRevoked1 out (by omega) k (by omega), spec_IsTime.f, in1, Option.bind_some, List.nil_append, List.length_nil, Nat.zero_add, hlim, if_true]
  unfold addFin tOk
  split
  · split
    · split <;> rfl
    · rfl
  · rfl
theorem getD_mid (a r : List S94) (x : S94) : (a ++ x :: r).getD a.length z94 = x := by
  rw [getD_get _ _ _ (by simp), List.getElem_append_right (Nat.le_refl _)]
  simp
theorem addLoop (l : List S94) (s t : Int) (hl : l.length ≤ 1048576) : ∀ (b a acc : List S94) (seen : Bool) (k : Nat), l = a ++ b → acc.length ≤ 2 * a.length → 2 * b.length + 2 * l.length + 20 < k → spec_AddRevoked.l0 k l s t acc seen (a.length : Int) = some (addFin l t (acc ++ addS s t b seen)) := by
  intro b
  induction b with
  | nil =>
    intro a acc seen k he hacc hk
    obtain ⟨k, rfl⟩ : ∃ m, k = m + 1 := ⟨k - 1, by omega⟩
    have hla : l.length = a.length := by rw [he]; simp
    simp only [spec_AddRevoked.l0]
    rw [if_neg (by omega)]
    cases seen with
    | true =>
      rw [if_pos rfl, addEnd l acc t hl (by omega) k (by omega) (by omega)]
      simp [addS]
    | false =>
      rw [if_neg (by simp), if_pos (by omega), addEnd l _ t hl (by simp; omega) k (by omega) (by simp; omega)]
      simp [addS]
  | cons x r ih =>
    intro a acc seen k he hacc hk
    obtain ⟨k, rfl⟩ : ∃ m, k = m + 1 + 1 := ⟨k - 2, by omega⟩
    have hla : l.length = a.length + (r.length + 1) := by rw [he]; simp
    have hx : rd_T94 l (a.length : Int) = x := by rw [rdT94, he, getD_mid]
    have hw : wrap64 ((a.length : Int) + 1) = (((a ++ [x]).length : Nat) : Int) := by rw [List.length_append]; unfold wrap64; simp; omega
    have he' : l = (a ++ [x]) ++ r := by rw [he]; simp
    have hal : (a ++ [x]).length = a.length + 1 := by simp
    have hj : ∀ q : Bool, q = (!seen && decide (s < x.f0)) → spec_AddRevoked.j1 (k + 1) l s t acc seen (a.length : Int) q x.f0 x.f1 = some (addFin l t (acc ++ addS s t (x :: r) seen)) := by
      intro q hq
      simp only [spec_AddRevoked.j1, minR, Option.bind_some, hw]
      have L1 : (acc.length < 8796093022208) = True := eq_true (by omega)
      have L2 : ((acc ++ [(⟨s, t⟩ : S94)]).length < 8796093022208) = True := eq_true (by simp; omega)
      simp only [L1, L2, if_true]
      have I : ∀ acc2 seen2, acc2.length ≤ acc.length + 2 → spec_AddRevoked.l0 k l s t acc2 seen2 (((a ++ [x]).length : Nat) : Int) = some (addFin l t (acc2 ++ addS s t r seen2)) := fun acc2 seen2 h => ih (a ++ [x]) acc2 seen2 k he' (by omega) (by simp only [List.length_cons] at hk; omega)
      cases q with
      | true =>
        have hq' := hq.symm
        simp only [Bool.and_eq_true, Bool.not_eq_true', decide_eq_true_eq] at hq'
        rw [if_pos rfl]
        by_cases h : x.f0 = s
        · omega
        · rw [if_neg h, I _ _ (by simp)]
          simp [addS, hq', addOne, h]
      | false =>
        have hq' : ¬ (seen = false ∧ s < x.f0) := by
          rintro ⟨e1, e2⟩
          rw [e1, decide_eq_true e2] at hq
          cases hq
        rw [if_neg (by simp)]
        by_cases h : x.f0 = s
        · rw [if_pos h, I _ _ (by simp)]
          simp [addS, hq', addOne, h]
        · rw [if_neg h, I _ _ (by simp)]
          simp [addS, hq', addOne, h]
    simp only [spec_AddRevoked.l0, hx]
    rw [if_pos (by omega), if_pos (by omega)]
    cases seen with
    | true => rw [if_pos rfl]; exact hj false (by simp)
    | false => rw [if_neg (by simp)]; exact hj _ (by simp)
theorem add1 (l : List S94) (s t : Int) (hl : l.length ≤ 1048576) (k : Nat) (hk : 4 * l.length + 20 < k) : spec_AddRevoked.f k l s t = some (addFin l t (addS s t l false)) := by
  have := addLoop l s t hl l [] [] false k (by simp) (by simp) (by omega)
  simpa [spec_AddRevoked.f] using this
theorem okR_iff (l : List S94) : areRevoked l = true ↔ (∀ x ∈ l, (1 ≤ x.f0 ∧ x.f0 ≤ 9999) ∧ (0 ≤ x.f1 ∧ x.f1 ≤ 10000)) ∧ l.Pairwise (fun x y => x.f0 < y.f0) ∧ l.length ≤ 40 := by
  have hb : ∀ i, badRevoked l i = true ↔ ((1 ≤ (l.getD i z94).f0 ∧ (l.getD i z94).f0 ≤ 9999) ∧ (0 ≤ (l.getD i z94).f1 ∧ (l.getD i z94).f1 ≤ 10000)) ∧ (i = 0 ∨ (l.getD (i - 1) z94).f0 < (l.getD i z94).f0) := by
    intro i
    simp only [badRevoked, Bool.and_eq_true, Bool.or_eq_true, decide_eq_true_eq]
  unfold areRevoked
  constructor
  · intro h
    split at h
    · rename_i ha
      rw [List.all_eq_true] at ha
      have hA := fun i (hi : i < l.length) => (hb i).1 (ha i (List.mem_range.2 hi))
      refine ⟨fun x hx => ?_, ?_, by have := of_decide_eq_true h; omega⟩
      · obtain ⟨i, hi, rfl⟩ := List.mem_iff_getElem.1 hx
        have := (hA i hi).1
        rwa [getD_get l i z94 hi] at this
      · have key : ∀ d i, i + d + 1 < l.length → (l.getD i z94).f0 < (l.getD (i + d + 1) z94).f0 := by
          intro d
          induction d with
          | zero =>
            intro i hi
            rcases (hA (i + 0 + 1) hi).2 with h | h
            · omega
            · simpa using h
          | succ d ih =>
            intro i hi
            have h1 := ih i (by omega)
            rcases (hA (i + (d + 1) + 1) hi).2 with h | h
            · omega
            · rw [show i + (d + 1) + 1 - 1 = i + d + 1 by omega] at h
              omega
        rw [List.pairwise_iff_getElem]
        intro i j hi hj hij
        have := key (j - i - 1) i (by omega)
        rw [show i + (j - i - 1) + 1 = j by omega, getD_get l i z94 hi, getD_get l j z94 hj] at this
        exact this
    · cases h
  · rintro ⟨h1, h2, h3⟩
    rw [if_pos]
    · exact decide_eq_true (by omega)
    · rw [List.all_eq_true]
      intro i hi
      have hi' := List.mem_range.1 hi
      refine (hb i).2 ⟨?_, ?_⟩
      · rw [getD_get l i z94 hi']
        exact h1 _ (List.getElem_mem hi')
      · rcases Nat.eq_zero_or_pos i with h | h
        · exact .inl h
        · right
          rw [getD_get l (i - 1) z94 (by omega), getD_get l i z94 hi']
          exact (List.pairwise_iff_getElem.1 h2) (i - 1) i (by omega) hi' (by omega)
theorem addS_skip (s t : Int) (b : List S94) (a : List S94) (h : ∀ y ∈ a, y.f0 < s) : addS s t (a ++ b) false = a ++ addS s t b false := by
  induction a with
  | nil => rfl
  | cons x r ih =>
    have hx := h x (by simp)
    rw [List.cons_append, addS, if_neg (by omega), Bool.false_or, decide_eq_false (by omega), ih (fun y hy => h y (by simp [hy]))]
    simp [addOne, show ¬ x.f0 = s by omega]
theorem addS_rest (s t : Int) (r : List S94) (h : ∀ y ∈ r, s < y.f0) : addS s t r true = r := by
  induction r with
  | nil => rfl
  | cons x r ih =>
    have hx := h x (by simp)
    rw [addS, if_neg (by simp), Bool.true_or, ih (fun y hy => h y (by simp [hy]))]
    simp [addOne, show ¬ x.f0 = s by omega]
theorem addIns (l a b : List S94) (s t : Int) (hl : l.length ≤ 1048576) (hA : areRevoked l = true) (hT : tOk t = true) (he : l = a ++ b) (ha : ∀ y ∈ a, y.f0 < s) (hb : addS s t b false = ⟨s, t⟩ :: b) (k : Nat) (hk : l.length + 5 < k) : impl_AddRevoked.j3 k s t l (a.length : Int) false = some (addFin l t (addS s t l false)) := by
  obtain ⟨k, rfl⟩ : ∃ m, k = m + 1 := ⟨k - 1, by omega⟩
  have hla : l.length = a.length + b.length := by rw [he]; simp
  have h2 : l.take (a.length : Int).toNat ++ [(⟨s, t⟩ : S94)] ++ l.drop (a.length : Int).toNat = addS s t l false := by
    rw [Int.toNat_natCast, he, addS_skip s t b a ha, hb]
    simp
  simp only [impl_AddRevoked.j3]
  rw [if_neg (by simp), impl_Revoked_80.f, if_pos (by omega), Option.bind_some, impl_Revoked_79.f, if_pos ⟨by omega, by omega, rfl, by omega⟩, h2, Option.bind_some]
  have hle := addS_len s t l
  rw [areRevoked2 _ (by omega) k (by omega), Option.bind_some]
  unfold addFin
  rw [if_pos hA, if_pos hT]
  split <;> rfl
theorem addLoop2 (l : List S94) (s t : Int) (hl : l.length ≤ 1048576) (hA : areRevoked l = true) (hT : tOk t = true) : ∀ (b a : List S94) (k : Nat), l = a ++ b → (∀ y ∈ a, y.f0 < s) → b.length + l.length + 20 < k → impl_AddRevoked.l0 k l s t l (a.length : Int) = some (addFin l t (addS s t l false)) := by
  intro b
  induction b with
  | nil =>
    intro a k he ha hk
    obtain ⟨k, rfl⟩ : ∃ m, k = m + 1 + 1 := ⟨k - 2, by omega⟩
    have hla : l.length = a.length := by rw [he]; simp
    simp only [impl_AddRevoked.l0]
    rw [if_neg (by omega)]
    simp only [impl_AddRevoked.j2]
    rw [if_neg (by omega)]
    exact addIns l a [] s t hl hA hT he ha rfl k (by omega)
  | cons x r ih =>
    intro a k he ha hk
    obtain ⟨k, rfl⟩ : ∃ m, k = m + 1 + 1 + 1 := ⟨k - 3, by omega⟩
    have hla : l.length = a.length + (r.length + 1) := by rw [he]; simp
    have hx : rd_T94 l (a.length : Int) = x := by rw [rdT94, he, getD_mid]
    have hw : wrap64 ((a.length : Int) + 1) = (((a ++ [x]).length : Nat) : Int) := by rw [List.length_append]; unfold wrap64; simp; omega
    have he' : l = (a ++ [x]) ++ r := by rw [he]; simp
    obtain ⟨hM, hP, h40⟩ := (okR_iff l).1 hA
    have hP' := hP
    rw [he, List.pairwise_append, List.pairwise_cons] at hP'
    simp only [impl_AddRevoked.l0, hx]
    rw [if_pos (by omega), if_pos (by omega)]
    by_cases h : x.f0 < s
    · rw [if_pos h, hw]
      exact ih (a ++ [x]) (k + 1 + 1) he' (fun y hy => by rcases List.mem_append.1 hy with hy | hy; exact ha y hy; simp at hy; rw [hy]; exact h) (by simp only [List.length_cons] at hk; omega)
    · rw [if_neg h]
      simp only [impl_AddRevoked.j2, hx]
      rw [if_pos (by omega), if_pos (by omega)]
      by_cases hq : x.f0 = s
      · rw [beq_iff_eq.2 hq]
        simp only [impl_AddRevoked.j3]
        rw [if_pos trivial, if_pos (by omega), if_pos (by omega), hx]
        have hout : l.set (a.length : Int).toNat (⟨x.f0, mn x.f1 t⟩ : S94) = addS s t l false := by
          rw [Int.toNat_natCast, he, addS_skip s t _ a ha, List.set_append_right _ _ (Nat.le_refl _), Nat.sub_self, List.set_cons_zero, addS, if_neg (by omega), Bool.false_or, decide_eq_true hq, addS_rest s t r (fun y hy => by have := hP'.2.1.1 y hy; omega)]
          simp [addOne, hq]
        have hT' : 0 ≤ t ∧ t ≤ 10000 := of_decide_eq_true hT
        have hok : areRevoked (addS s t l false) = true := by
          rw [← hout, Int.toNat_natCast, okR_iff]
          have hxm := hM x (by rw [he]; simp)
          have hmn : 0 ≤ mn x.f1 t ∧ mn x.f1 t ≤ 10000 := by unfold mn; split <;> omega
          rw [he, List.set_append_right _ _ (Nat.le_refl _), Nat.sub_self, List.set_cons_zero]
          refine ⟨fun y hy => ?_, ?_, by rw [he] at h40; simpa using h40⟩
          · rcases List.mem_append.1 hy with hy | hy
            · exact hM y (by rw [he]; simp [hy])
            · rcases List.mem_cons.1 hy with rfl | hy
              · exact ⟨hxm.1, hmn⟩
              · exact hM y (by rw [he]; simp [hy])
          · rw [List.pairwise_append, List.pairwise_cons]
            refine ⟨hP'.1, ⟨fun y hy => hP'.2.1.1 y hy, hP'.2.1.2⟩, fun y hy z hz => ?_⟩
            rcases List.mem_cons.1 hz with rfl | hz
            · exact hP'.2.2 y hy x (by simp)
            · exact hP'.2.2 y hy z (by simp [hz])
        rw [hout]
        unfold addFin
        rw [if_pos hA, if_pos hok, if_pos hT]
      · rw [show (x.f0 == s) = false from beq_eq_false_iff_ne.2 hq]
        refine addIns l a (x :: r) s t hl hA hT he ha ?_ (k + 1) (by omega)
        rw [addS, if_pos ⟨rfl, by omega⟩, addS_rest s t r (fun y hy => by have := hP'.2.1.1 y hy; omega)]
        simp [addOne, hq]
theorem add2 (l : List S94) (s t : Int) (hl : l.length ≤ 1048576) (k : Nat) (hk : 4 * l.length + 40 < k) : impl_AddRevoked.f k l s t = some (addFin l t (addS s t l false)) := by
  have hlim : (l.length < 8796093022208) = True := eq_true (by omega)
  simp only [impl_AddRevoked.f, Option.bind_some, List.nil_append, List.length_nil, Nat.zero_add, hlim, if_true, areRevoked2 l (by omega) k (by omega), impl_IsTime.f, in2]
  obtain ⟨k, rfl⟩ : ∃ m, k = m + 1 := ⟨k - 1, by omega⟩
  by_cases hA : areRevoked l = true
  · rw [if_pos hA]
    simp only [impl_AddRevoked.j0]
    by_cases hT : tOk t = true
    · rw [show (!(decide (0 ≤ t ∧ t ≤ 10000))) = false by rw [show decide (0 ≤ t ∧ t ≤ 10000) = true from hT]; rfl, if_neg (by simp)]
      exact addLoop2 l s t hl hA hT l [] k (by simp) (by simp) (by omega)
    · rw [show (!(decide (0 ≤ t ∧ t ≤ 10000))) = true by rw [show decide (0 ≤ t ∧ t ≤ 10000) = false from by simpa [tOk] using hT]; rfl, if_pos rfl]
      unfold addFin
      rw [if_pos hA, if_neg hT]
      split <;> rfl
  · rw [if_neg hA]
    simp only [impl_AddRevoked.j0, if_true]
    unfold addFin
    rw [if_neg hA]
def mergeStep (acc : List S94) (x : S94) : List S94 := (addFin acc x.f1 (addS x.f0 x.f1 acc false)).1
theorem mergeStep_len (acc : List S94) (x : S94) : (mergeStep acc x).length ≤ acc.length + 1 := addFin_len _ _ _ (addS_len _ _ _)
theorem merge_len (b : List S94) : ∀ acc : List S94, (b.foldl mergeStep acc).length ≤ acc.length + b.length := by
  induction b with
  | nil => intro acc; simp
  | cons x r ih =>
    intro acc
    have h1 := ih (mergeStep acc x)
    have h2 := mergeStep_len acc x
    rw [List.foldl_cons, List.length_cons]
    omega
theorem mergeLoop1 (l : List S94) : ∀ (b a acc : List S94) (k : Nat), l = a ++ b → l.length ≤ 1048576 → acc.length + b.length ≤ 1048576 → b.length + 4194400 < k → spec_MergeRevoked.l0 k l acc (a.length : Int) = some (b.foldl mergeStep acc) := by
  intro b
  induction b with
  | nil =>
    intro a acc k he hl hacc hk
    obtain ⟨k, rfl⟩ : ∃ m, k = m + 1 := ⟨k - 1, by omega⟩
    have hla : l.length = a.length := by rw [he]; simp
    simp only [spec_MergeRevoked.l0]
    rw [if_neg (by omega)]
    rfl
  | cons x r ih =>
    intro a acc k he hl hacc hk
    obtain ⟨k, rfl⟩ : ∃ m, k = m + 1 := ⟨k - 1, by omega⟩
    have hla : l.length = a.length + (r.length + 1) := by rw [he]; simp
    have hx : rd_T94 l (a.length : Int) = x := by rw [rdT94, he, getD_mid]
    have hw : wrap64 ((a.length : Int) + 1) = (((a ++ [x]).length : Nat) : Int) := by rw [List.length_append]; unfold wrap64; simp; omega
    rw [List.length_cons] at hacc hk
    have h2 := mergeStep_len acc x
    simp only [spec_MergeRevoked.l0, hx]
    rw [if_pos (by omega), if_pos (by omega), add1 acc x.f0 x.f1 (by omega) k (by omega), Option.bind_some, hw]
    exact ih (a ++ [x]) (mergeStep acc x) k (by rw [he]; simp) hl (by omega) (by omega)
theorem mergeLoop2 (l : List S94) : ∀ (b a acc : List S94) (k : Nat), l = a ++ b → l.length ≤ 1048576 → acc.length + b.length ≤ 1048576 → b.length + 4194400 < k → impl_MergeRevoked.l0 k acc l (l.length : Int) (a.length : Int) = some (b.foldl mergeStep acc) := by
  intro b
  induction b with
  | nil =>
    intro a acc k he hl hacc hk
    obtain ⟨k, rfl⟩ : ∃ m, k = m + 1 := ⟨k - 1, by omega⟩
    have hla : l.length = a.length := by rw [he]; simp
    simp only [impl_MergeRevoked.l0]
    rw [if_neg (by omega)]
    rfl
  | cons x r ih =>
    intro a acc k he hl hacc hk
    obtain ⟨k, rfl⟩ : ∃ m, k = m + 1 := ⟨k - 1, by omega⟩
    have hla : l.length = a.length + (r.length + 1) := by rw [he]; simp
    have hx : rd_T94 l (a.length : Int) = x := by rw [rdT94, he, getD_mid]
    have hw : wrap64 ((a.length : Int) + 1) = (((a ++ [x]).length : Nat) : Int) := by rw [List.length_append]; unfold wrap64; simp; omega
    rw [List.length_cons] at hacc hk
    have h2 := mergeStep_len acc x
    simp only [impl_MergeRevoked.l0, hx]
    rw [if_pos (by omega), if_pos (by omega), if_pos (by omega), add2 acc x.f0 x.f1 (by omega) k (by omega), Option.bind_some, hw]
    exact ih (a ++ [x]) (mergeStep acc x) k (by rw [he]; simp) hl (by omega) (by omega)
theorem merge1 (a b : List S94) (h : a.length + b.length ≤ 1048576) (k : Nat) (hk : 6000000 < k) : spec_MergeRevoked.f k a b = some (b.foldl mergeStep a) := by
  have hlim : (a.length < 8796093022208) = True := eq_true (by omega)
  simp only [spec_MergeRevoked.f, Option.bind_some, List.nil_append, List.length_nil, Nat.zero_add, hlim, if_true]
  exact mergeLoop1 b b [] a k (by simp) (by omega) h (by omega)
theorem merge2 (a b : List S94) (h : a.length + b.length ≤ 1048576) (k : Nat) (hk : 6000000 < k) : impl_MergeRevoked.f k a b = some (b.foldl mergeStep a) := by
  have hlim : (a.length < 8796093022208) = True := eq_true (by omega)
  simp only [impl_MergeRevoked.f, Option.bind_some, List.nil_append, List.length_nil, Nat.zero_add, hlim, if_true]
  exact mergeLoop2 b b [] a k (by simp) (by omega) h (by omega)
theorem FnExactMergeRevoked : laws_FnExactMergeRevoked.Pure := by
  intro l l' hw hw'
  suffices h : ∀ k, 8000000 < k → laws_FnExactMergeRevoked.f (k + 1) l l' = some true from ⟨8000001 + 1, h _ (by omega)⟩
  intro k hk
  unfold laws_FnExactMergeRevoked.f
  rw [szRevoked l 1048576 (by omega) (by omega) hw.1]
  simp only [Option.bind_some]
  by_cases h : (l.length : Int) ≤ 1048576
  · rw [if_pos h, if_neg (by omega), szRevoked l' _ (by omega) (by omega) hw'.1]
    simp only [Option.bind_some]
    by_cases h' : (l'.length : Int) ≤ 1048576 - (l.length : Int)
    · rw [if_pos h', if_neg (by omega)]
      have hl : (l.map cvRevoked).length = l.length := List.length_map ..
      have hl' : (l'.map cvRevoked).length = l'.length := List.length_map ..
      have T := fun k' hk' => toRevoked l (by omega) k' hk'
      have T' := fun k' hk' => toRevoked l' (by omega) k' hk'
      have A1 := merge1 (l.map cvRevoked) (l'.map cvRevoked) (by omega)
      have A2 := merge2 (l.map cvRevoked) (l'.map cvRevoked) (by omega)
      have hR := merge_len (l'.map cvRevoked) (l.map cvRevoked)
      generalize (l'.map cvRevoked).foldl mergeStep (l.map cvRevoked) = R at hR A1 A2
      have E0 := eqRevoked_self R (by omega)
      have E1 := eqRevoked_self (l.map cvRevoked) (by omega)
      have E2 := eqRevoked_self (l'.map cvRevoked) (by omega)
      have M0 := markRevoked R (by omega) 1 (by omega) (by omega)
      have M1 := markRevoked (l.map cvRevoked) (by omega) 1 (by omega) (by omega)
      have M2 := markRevoked (l'.map cvRevoked) (by omega) (1 + 2 * ((l.map cvRevoked).length : Int)) (by omega) (by omega)
      have H := heldRevoked R.length (by omega) 1 (by omega) (by omega)
      have g1 : ¬ (1 + 2 * ((l.map cvRevoked).length : Int) + 2 * ((l'.map cvRevoked).length : Int) < 0) := by omega
      have g2 : ¬ (1 + 2 * (R.length : Int) < 0) := by omega
      simp only [laws_FnExactMergeRevoked.j0, T (k + 1) (by omega), T k (by omega), T' (k + 1) (by omega), T' k (by omega), A1 (k + 1) (by omega), A2 (k + 1) (by omega), A2 k (by omega), E0 (k + 1) (by omega), E0 k (by omega), E1 (k + 1) (by omega), E2 (k + 1) (by omega), M0 k (by omega), M1 (k + 1) (by omega), M2 (k + 1) (by omega), H k (by omega), Option.bind_some, if_true, g1, g2, if_false, Bool.not_true, Bool.false_eq_true]
    · rw [if_neg h', if_pos (by omega)]
  · rw [if_neg h, if_pos (by omega)]
end Go.Proofs.Ytgmgoabohppkeaa.Pure
