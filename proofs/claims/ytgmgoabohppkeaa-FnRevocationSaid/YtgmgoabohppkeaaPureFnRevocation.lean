/- FnRevocation: what is said of revocation lists holds for all bytes. Conditions: none. -/
import Derived.Test.YtgmgoabohppkeaaLib
import Derived.Test.YtgmgoabohppkeaaXFnRevocationx6
namespace Go.Proofs.Ytgmgoabohppkeaa.Pure
open Go.RowKit Go.Proofs.Ytgmgoabohppkeaa.XFnRevocation Go.Proofs.YtgmgoabohppkeaaW.PrintWords
set_option linter.unusedVariables false
set_option linter.unusedSimpArgs false
open Go.Proofs.YtgmgoabohppkeaaLib
theorem in1 (x y z : Int) : spec_l1In.f x y z = some (decide (y ≤ x ∧ x ≤ z)) := by
  unfold spec_l1In.f
  by_cases h : x ≥ y
  · rw [if_pos h]; simp [show y ≤ x from h]
  · rw [if_neg h]; simp; omega
theorem in2 (x y z : Int) : impl_InRange.f x y z = some (decide (y ≤ x ∧ x ≤ z)) := by
  unfold impl_InRange.f
  by_cases h : y ≤ x
  · rw [if_pos h]; simp [h]
  · rw [if_neg h]; simp; omega
theorem rdT94 (l : List S94) (i : Nat) : rd_T94 l (i : Int) = l.getD i z94 := by
  unfold rd_T94
  rw [Int.toNat_natCast]
def badRevoked (l : List S94) (i : Nat) : Bool :=
  decide (1 ≤ (l.getD i z94).f0 ∧ (l.getD i z94).f0 ≤ 9999) && decide (0 ≤ (l.getD i z94).f1 ∧ (l.getD i z94).f1 ≤ 10000) && (decide (i = 0) || decide ((l.getD (i - 1) z94).f0 < (l.getD i z94).f0))
def areRevoked (l : List S94) : Bool := if (List.range l.length).all (badRevoked l) = true then decide ((l.length : Int) ≤ 40) else false
theorem areRevoked1 (l : List S94) (hl : l.length ≤ 1099511627776) (k : Nat) (hk : l.length < k) : spec_AreRevoked.f k l = some (areRevoked l) := by
  unfold spec_AreRevoked.f
  refine allLoop (fun k i => spec_AreRevoked.l0 k l i) l.length 0 (badRevoked l) false (decide ((l.length : Int) ≤ 40)) ?_ ?_ ?_ k (by omega)
  · intro k i _ hi hp
    simp only [badRevoked, Bool.and_eq_true, Bool.or_eq_true, decide_eq_true_eq] at hp
    obtain ⟨⟨hp1, hp2⟩, hp3⟩ := hp
    simp only [spec_AreRevoked.l0, in1, spec_IsTime.f, rdT94, Option.bind_some, decide_eq_true_eq]
    rw [if_pos (by omega), if_pos (by omega), if_pos hp1, if_pos hp2, wrap_succ hi hl]
    rcases Nat.eq_zero_or_pos i with h0 | h0
    · rw [if_neg (by omega)]
    · have hw : wrap64 ((i : Int) - 1) = ((i - 1 : Nat) : Int) := by unfold wrap64; omega
      rw [if_pos (by omega), hw, rdT94, if_pos (by omega), if_pos (by omega), if_neg (by omega)]
  · intro k i _ hi hp
    simp only [spec_AreRevoked.l0, in1, spec_IsTime.f, rdT94, Option.bind_some, decide_eq_true_eq]
    rw [if_pos (by omega), if_pos (by omega)]
    by_cases hp1 : 1 ≤ (l.getD i z94).f0 ∧ (l.getD i z94).f0 ≤ 9999
    · rw [if_pos hp1]
      by_cases hp2 : 0 ≤ (l.getD i z94).f1 ∧ (l.getD i z94).f1 ≤ 10000
      · rw [if_pos hp2]
        have h0 : 0 < i := by
          rcases Nat.eq_zero_or_pos i with h0 | h0
          · unfold badRevoked at hp
            rw [decide_eq_true hp1, decide_eq_true hp2, decide_eq_true h0] at hp
            simp at hp
          · exact h0
        have hw : wrap64 ((i : Int) - 1) = ((i - 1 : Nat) : Int) := by unfold wrap64; omega
        have hq : (l.getD i z94).f0 ≤ (l.getD (i - 1) z94).f0 := by
          simp only [badRevoked, hp1, hp2, and_self, decide_true, Bool.true_and, Bool.or_eq_false_iff, decide_eq_false_iff_not] at hp
          omega
        rw [if_pos (by omega), hw, rdT94, if_pos (by omega), if_pos (by omega), if_pos hq]
      · rw [if_neg hp2]
    · rw [if_neg hp1]
  · intro k _
    simp only [spec_AreRevoked.l0]
    rw [if_neg (by omega)]
theorem areRevoked2 (l : List S94) (hl : l.length ≤ 1099511627776) (k : Nat) (hk : l.length < k) : impl_AreRevoked.f k l = some (areRevoked l) := by
  unfold impl_AreRevoked.f
  refine allLoop (fun k i => impl_AreRevoked.l0 k l l (l.length : Int) i) l.length 0 (badRevoked l) false (decide ((l.length : Int) ≤ 40)) ?_ ?_ ?_ k (by omega)
  · intro k i _ hi hp
    simp only [badRevoked, Bool.and_eq_true, Bool.or_eq_true, decide_eq_true_eq] at hp
    obtain ⟨⟨hp1, hp2⟩, hp3⟩ := hp
    simp only [impl_AreRevoked.l0, in2, impl_IsTime.f, rdT94, Option.bind_some, decide_eq_true_eq]
    rw [if_pos (by omega), if_pos (by omega), if_pos (by omega), if_pos hp1, if_pos hp2, wrap_succ hi hl]
    rcases Nat.eq_zero_or_pos i with h0 | h0
    · rw [if_neg (by omega)]
    · have hw : wrap64 ((i : Int) - 1) = ((i - 1 : Nat) : Int) := by unfold wrap64; omega
      rw [if_pos (by omega), hw, rdT94, if_pos (by omega), if_pos (by omega), if_neg (by omega)]
  · intro k i _ hi hp
    simp only [impl_AreRevoked.l0, in2, impl_IsTime.f, rdT94, Option.bind_some, decide_eq_true_eq]
    rw [if_pos (by omega), if_pos (by omega), if_pos (by omega)]
    by_cases hp1 : 1 ≤ (l.getD i z94).f0 ∧ (l.getD i z94).f0 ≤ 9999
    · rw [if_pos hp1]
      by_cases hp2 : 0 ≤ (l.getD i z94).f1 ∧ (l.getD i z94).f1 ≤ 10000
      · rw [if_pos hp2]
        have h0 : 0 < i := by
          rcases Nat.eq_zero_or_pos i with h0 | h0
          · unfold badRevoked at hp
            rw [decide_eq_true hp1, decide_eq_true hp2, decide_eq_true h0] at hp
            simp at hp
          · exact h0
        have hw : wrap64 ((i : Int) - 1) = ((i - 1 : Nat) : Int) := by unfold wrap64; omega
        have hq : (l.getD i z94).f0 ≤ (l.getD (i - 1) z94).f0 := by
          simp only [badRevoked, hp1, hp2, and_self, decide_true, Bool.true_and, Bool.or_eq_false_iff, decide_eq_false_iff_not] at hp
          omega
        rw [if_pos (by omega), hw, rdT94, if_pos (by omega), if_pos (by omega), if_pos hq]
      · rw [if_neg hp2]
    · rw [if_neg hp1]
  · intro k _
    simp only [impl_AreRevoked.l0]
    rw [if_neg (by omega)]
def tOk (t : Int) : Bool := decide (0 ≤ t ∧ t ≤ 10000)
def addOne (s t : Int) (x : S94) : S94 := if x.f0 = s then ⟨x.f0, mn x.f1 t⟩ else x
def addS (s t : Int) : List S94 → Bool → List S94
  | [], seen => if seen = true then [] else [⟨s, t⟩]
  | x :: r, seen => if seen = false ∧ s < x.f0 then ⟨s, t⟩ :: addOne s t x :: addS s t r true else addOne s t x :: addS s t r (seen || decide (x.f0 = s))
def addFin (l : List S94) (t : Int) (out : List S94) : List S94 × Bool := if areRevoked l = true then (if areRevoked out = true then (if tOk t = true then (out, true) else (l, false)) else (l, false)) else (l, false)
theorem addS_true (s t : Int) (r : List S94) : (addS s t r true).length = r.length := by
  induction r with
  | nil => rfl
  | cons x r ih => simp [addS, ih]
theorem addS_len (s t : Int) (r : List S94) : (addS s t r false).length ≤ r.length + 1 := by
  induction r with
  | nil => simp [addS]
  | cons x r ih =>
    unfold addS
    split
    · simp only [List.length_cons, addS_true]; omega
    · simp only [List.length_cons, Bool.false_or]
      by_cases h : x.f0 = s
      · rw [decide_eq_true h, addS_true]; omega
      · rw [decide_eq_false h]; omega
theorem addFin_len (l : List S94) (t : Int) (out : List S94) (h : out.length ≤ l.length + 1) : (addFin l t out).1.length ≤ l.length + 1 := by
  unfold addFin
  split
  · split
    · split
      · exact h
      · exact Nat.le_succ _
    · exact Nat.le_succ _
  · exact Nat.le_succ _
theorem minR (a b : Int) : spec_Min.f a b = some (mn a b) := by
  unfold spec_Min.f mn
  split <;> rfl
theorem addEnd (l out : List S94) (t : Int) (hl : l.length ≤ 1048576) (ho : out.length ≤ 8000000) (k : Nat) (h1 : l.length + 1 < k) (h2 : out.length + 1 < k) : spec_AddRevoked.j2 k l t out = some (addFin l t out) := by
  obtain ⟨k, rfl⟩ : ∃ m, k = m + 1 := ⟨k - 1, by omega⟩
  have hlim : (l.length < 8796093022208) = True := eq_true (by omega)
  simp only [spec_AddRevoked.j2, areRevoked1 l (by omega) k (by omega), areRevoked1 out (by omega) k (by omega), spec_IsTime.f, in1, Option.bind_some, List.nil_append, List.length_nil, Nat.zero_add, hlim, if_true]
  unfold addFin tOk
  split
  · split
    · split <;> rfl
    · rfl
  · rfl
theorem getD_mid (a r : List S94) (x : S94) : (a ++ x :: r).getD a.length z94 = x := by
  rw [getD_get _ _ _ (by simp), List.getElem_append_right (Nat.le_refl _)]
  simp
theorem addLoop (l : List S94) (s t : Int) (hl : l.length ≤ 1048576) : ∀ (b a acc : List S94) (seen : Bool) (k : Nat), l = a ++ b → acc.length ≤ 2 * a.length → 2 * b.length + 2 * l.length + 20 < k → spec_AddRevoked.l0 k l s t acc seen (a.length : Int) = some (addFin l t (acc ++ addS s t b seen)) := by
  intro b
  induction b with
  | nil =>
    intro a acc seen k he hacc hk
    obtain ⟨k, rfl⟩ : ∃ m, k = m + 1 := ⟨k - 1, by omega⟩
    have hla : l.length = a.length := by rw [he]; simp
    simp only [spec_AddRevoked.l0]
    rw [if_neg (by omega)]
    cases seen with
    | true =>
      rw [if_pos rfl, addEnd l acc t hl (by omega) k (by omega) (by omega)]
      simp [addS]
    | false =>
      rw [if_neg (by simp), if_pos (by omega), addEnd l _ t hl (by simp; omega) k (by omega) (by simp; omega)]
      simp [addS]
  | cons x r ih =>
    intro a acc seen k he hacc hk
    obtain ⟨k, rfl⟩ : ∃ m, k = m + 1 + 1 := ⟨k - 2, by omega⟩
    have hla : l.length = a.length + (r.length + 1) := by rw [he]; simp
    have hx : rd_T94 l (a.length : Int) = x := by rw [rdT94, he, getD_mid]
    have hw : wrap64 ((a.length : Int) + 1) = (((a ++ [x]).length : Nat) : Int) := by rw [List.length_append]; unfold wrap64; simp; omega
    have he' : l = (a ++ [x]) ++ r := by rw [he]; simp
    have hal : (a ++ [x]).length = a.length + 1 := by simp
    have hj : ∀ q : Bool, q = (!seen && decide (s < x.f0)) → spec_AddRevoked.j1 (k + 1) l s t acc seen (a.length : Int) q x.f0 x.f1 = some (addFin l t (acc ++ addS s t (x :: r) seen)) := by
      intro q hq
      simp only [spec_AddRevoked.j1, minR, Option.bind_some, hw]
      have L1 : (acc.length < 8796093022208) = True := eq_true (by omega)
      have L2 : ((acc ++ [(⟨s, t⟩ : S94)]).length < 8796093022208) = True := eq_true (by simp; omega)
      simp only [L1, L2, if_true]
      have I : ∀ acc2 seen2, acc2.length ≤ acc.length + 2 → spec_AddRevoked.l0 k l s t acc2 seen2 (((a ++ [x]).length : Nat) : Int) = some (addFin l t (acc2 ++ addS s t r seen2)) := fun acc2 seen2 h => ih (a ++ [x]) acc2 seen2 k he' (by omega) (by simp only [List.length_cons] at hk; omega)
      cases q with
      | true =>
        have hq' := hq.symm
        simp only [Bool.and_eq_true, Bool.not_eq_true', decide_eq_true_eq] at hq'
        rw [if_pos rfl]
        by_cases h : x.f0 = s
        · omega
        · rw [if_neg h, I _ _ (by simp)]
          simp [addS, hq', addOne, h]
      | false =>
        have hq' : ¬ (seen = false ∧ s < x.f0) := by
          rintro ⟨e1, e2⟩
          rw [e1, decide_eq_true e2] at hq
          cases hq
        rw [if_neg (by simp)]
        by_cases h : x.f0 = s
        · rw [if_pos h, I _ _ (by simp)]
          simp [addS, hq', addOne, h]
        · rw [if_neg h, I _ _ (by simp)]
          simp [addS, hq', addOne, h]
    simp only [spec_AddRevoked.l0, hx]
    rw [if_pos (by omega), if_pos (by omega)]
    cases seen with
    | true => rw [if_pos rfl]; exact hj false (by simp)
    | false => rw [if_neg (by simp)]; exact hj _ (by simp)
theorem add1 (l : List S94) (s t : Int) (hl : l.length ≤ 1048576) (k : Nat) (hk : 4 * l.length + 20 < k) : spec_AddRevoked.f k l s t = some (addFin l t (addS s t l false)) := by
  have := addLoop l s t hl l [] [] false k (by simp) (by simp) (by omega)
  simpa [spec_AddRevoked.f] using this
theorem okR_iff (l : List S94) : areRevoked l = true ↔ (∀ x ∈ l, (1 ≤ x.f0 ∧ x.f0 ≤ 9999) ∧ (0 ≤ x.f1 ∧ x.f1 ≤ 10000)) ∧ l.Pairwise (fun x y => x.f0 < y.f0) ∧ l.length ≤ 40 := by
  have hb : ∀ i, badRevoked l i = true ↔ ((1 ≤ (l.getD i z94).f0 ∧ (l.getD i z94).f0 ≤ 9999) ∧ (0 ≤ (l.getD i z94).f1 ∧ (l.getD i z94).f1 ≤ 10000)) ∧ (i = 0 ∨ (l.getD (i - 1) z94).f0 < (l.getD i z94).f0) := by
    intro i
    simp only [badRevoked, Bool.and_eq_true, Bool.or_eq_true, decide_eq_true_eq]
  unfold areRevoked
  constructor
  · intro h
    split at h
    · rename_i ha
      rw [List.all_eq_true] at ha
      have hA := fun i (hi : i < l.length) => (hb i).1 (ha i (List.mem_range.2 hi))
      refine ⟨fun x hx => ?_, ?_, by have := of_decide_eq_true h; omega⟩
      · obtain ⟨i, hi, rfl⟩ := List.mem_iff_getElem.1 hx
        have := (hA i hi).1
        rwa [getD_get l i z94 hi] at this
      · have key : ∀ d i, i + d + 1 < l.length → (l.getD i z94).f0 < (l.getD (i + d + 1) z94).f0 := by
          intro d
          induction d with
          | zero =>
            intro i hi
            rcases (hA (i + 0 + 1) hi).2 with h | h
            · omega
            · simpa using h
          | succ d ih =>
            intro i hi
            have h1 := ih i (by omega)
            rcases (hA (i + (d + 1) + 1) hi).2 with h | h
            · omega
            · rw [show i + (d + 1) + 1 - 1 = i + d + 1 by omega] at h
              omega
        rw [List.pairwise_iff_getElem]
        intro i j hi hj hij
        have := key (j - i - 1) i (by omega)
        rw [show i + (j - i - 1) + 1 = j by omega, getD_get l i z94 hi, getD_get l j z94 hj] at this
        exact this
    · cases h
  · rintro ⟨h1, h2, h3⟩
    rw [if_pos]
    · exact decide_eq_true (by omega)
    · rw [List.all_eq_true]
      intro i hi
      have hi' := List.mem_range.1 hi
      refine (hb i).2 ⟨?_, ?_⟩
      · rw [getD_get l i z94 hi']
        exact h1 _ (List.getElem_mem hi')
      · rcases Nat.eq_zero_or_pos i with h | h
        · exact .inl h
        · right
          rw [getD_get l (i - 1) z94 (by omega), getD_get l i z94 hi']
          exact (List.pairwise_iff_getElem.1 h2) (i - 1) i (by omega) hi' (by omega)
theorem addS_skip (s t : Int) (b : List S94) (a : List S94) (h : ∀ y ∈ a, y.f0 < s) : addS s t (a ++ b) false = a ++ addS s t b false := by
  induction a with
  | nil => rfl
  | cons x r ih =>
    have hx := h x (by simp)
    rw [List.cons_append, addS, if_neg (by omega), Bool.false_or, decide_eq_false (by omega), ih (fun y hy => h y (by simp [hy]))]
    simp [addOne, show ¬ x.f0 = s by omega]
theorem addS_rest (s t : Int) (r : List S94) (h : ∀ y ∈ r, s < y.f0) : addS s t r true = r := by
  induction r with
  | nil => rfl
  | cons x r ih =>
    have hx := h x (by simp)
    rw [addS, if_neg (by simp), Bool.true_or, ih (fun y hy => h y (by simp [hy]))]
    simp [addOne, show ¬ x.f0 = s by omega]
theorem addIns (l a b : List S94) (s t : Int) (hl : l.length ≤ 1048576) (hA : areRevoked l = true) (hT : tOk t = true) (he : l = a ++ b) (ha : ∀ y ∈ a, y.f0 < s) (hb : addS s t b false = ⟨s, t⟩ :: b) (k : Nat) (hk : l.length + 5 < k) : impl_AddRevoked.j3 k s t l (a.length : Int) false = some (addFin l t (addS s t l false)) := by
  obtain ⟨k, rfl⟩ : ∃ m, k = m + 1 := ⟨k - 1, by omega⟩
  have hla : l.length = a.length + b.length := by rw [he]; simp
  have h2 : l.take (a.length : Int).toNat ++ [(⟨s, t⟩ : S94)] ++ l.drop (a.length : Int).toNat = addS s t l false := by
    rw [Int.toNat_natCast, he, addS_skip s t b a ha, hb]
    simp
  simp only [impl_AddRevoked.j3]
  rw [if_neg (by simp), impl_Revoked_80.f, if_pos (by omega), Option.bind_some, impl_Revoked_79.f, if_pos ⟨by omega, by omega, rfl, by omega⟩, h2, Option.bind_some]
  have hle := addS_len s t l
  rw [areRevoked2 _ (by omega) k (by omega), Option.bind_some]
  unfold addFin
  rw [if_pos hA, if_pos hT]
  split <;> rfl
theorem addLoop2 (l : List S94) (s t : Int) (hl : l.length ≤ 1048576) (hA : areRevoked l = true) (hT : tOk t = true) : ∀ (b a : List S94) (k : Nat), l = a ++ b → (∀ y ∈ a, y.f0 < s) → b.length + l.length + 20 < k → impl_AddRevoked.l0 k l s t l (a.length : Int) = some (addFin l t (addS s t l false)) := by
  intro b
  induction b with
  | nil =>
    intro a k he ha hk
    obtain ⟨k, rfl⟩ : ∃ m, k = m + 1 + 1 := ⟨k - 2, by omega⟩
    have hla : l.length = a.length := by rw [he]; simp
    simp only [impl_AddRevoked.l0]
    rw [if_neg (by omega)]
    simp only [impl_AddRevoked.j2]
    rw [if_neg (by omega)]
    exact addIns l a [] s t hl hA hT he ha rfl k (by omega)
  | cons x r ih =>
    intro a k he ha hk
    obtain ⟨k, rfl⟩ : ∃ m, k = m + 1 + 1 + 1 := ⟨k - 3, by omega⟩
    have hla : l.length = a.length + (r.length + 1) := by rw [he]; simp
    have hx : rd_T94 l (a.length : Int) = x := by rw [rdT94, he, getD_mid]
    have hw : wrap64 ((a.length : Int) + 1) = (((a ++ [x]).length : Nat) : Int) := by rw [List.length_append]; unfold wrap64; simp; omega
    have he' : l = (a ++ [x]) ++ r := by rw [he]; simp
    obtain ⟨hM, hP, h40⟩ := (okR_iff l).1 hA
    have hP' := hP
    rw [he, List.pairwise_append, List.pairwise_cons] at hP'
    simp only [impl_AddRevoked.l0, hx]
    rw [if_pos (by omega), if_pos (by omega)]
    by_cases h : x.f0 < s
    · rw [if_pos h, hw]
      exact ih (a ++ [x]) (k + 1 + 1) he' (fun y hy => by rcases List.mem_append.1 hy with hy | hy; exact ha y hy; simp at hy; rw [hy]; exact h) (by simp only [List.length_cons] at hk; omega)
    · rw [if_neg h]
      simp only [impl_AddRevoked.j2, hx]
      rw [if_pos (by omega), if_pos (by omega)]
      by_cases hq : x.f0 = s
      · rw [beq_iff_eq.2 hq]
        simp only [impl_AddRevoked.j3]
        rw [if_pos trivial, if_pos (by omega), if_pos (by omega), hx]
        have hout : l.set (a.length : Int).toNat (⟨x.f0, mn x.f1 t⟩ : S94) = addS s t l false := by
          rw [Int.toNat_natCast, he, addS_skip s t _ a ha, List.set_append_right _ _ (Nat.le_refl _), Nat.sub_self, List.set_cons_zero, addS, if_neg (by omega), Bool.false_or, decide_eq_true hq, addS_rest s t r (fun y hy => by have := hP'.2.1.1 y hy; omega)]
          simp [addOne, hq]
        have hT' : 0 ≤ t ∧ t ≤ 10000 := of_decide_eq_true hT
        have hok : areRevoked (addS s t l false) = true := by
          rw [← hout, Int.toNat_natCast, okR_iff]
          have hxm := hM x (by rw [he]; simp)
          have hmn : 0 ≤ mn x.f1 t ∧ mn x.f1 t ≤ 10000 := by unfold mn; split <;> omega
          rw [he, List.set_append_right _ _ (Nat.le_refl _), Nat.sub_self, List.set_cons_zero]
          refine ⟨fun y hy => ?_, ?_, by rw [he] at h40; simpa using h40⟩
          · rcases List.mem_append.1 hy with hy | hy
            · exact hM y (by rw [he]; simp [hy])
            · rcases List.mem_cons.1 hy with rfl | hy
              · exact ⟨hxm.1, hmn⟩
              · exact hM y (by rw [he]; simp [hy])
          · rw [List.pairwise_append, List.pairwise_cons]
            refine ⟨hP'.1, ⟨fun y hy => hP'.2.1.1 y hy, hP'.2.1.2⟩, fun y hy z hz => ?_⟩
            rcases List.mem_cons.1 hz with rfl | hz
            · exact hP'.2.2 y hy x (by simp)
            · exact hP'.2.2 y hy z (by simp [hz])
        rw [hout]
        unfold addFin
        rw [if_pos hA, if_pos hok, if_pos hT]
      · rw [show (x.f0 == s) = false from beq_eq_false_iff_ne.2 hq]
        refine addIns l a (x :: r) s t hl hA hT he ha ?_ (k + 1) (by omega)
        rw [addS, if_pos ⟨rfl, by omega⟩, addS_rest s t r (fun y hy => by have := hP'.2.1.1 y hy; omega)]
        simp [addOne, hq]
theorem add2 (l : List S94) (s t : Int) (hl : l.length ≤ 1048576) (k : Nat) (hk : 4 * l.length + 40 < k) : impl_AddRevoked.f k l s t = some (addFin l t (addS s t l false)) := by
  have hlim : (l.length < 8796093022208) = True := eq_true (by omega)
  simp only [impl_AddRevoked.f, Option.bind_some, List.nil_append, List.length_nil, Nat.zero_add, hlim, if_true, areRevoked2 l (by omega) k (by omega), impl_IsTime.f, in2]
  obtain ⟨k, rfl⟩ : ∃ m, k = m + 1 := ⟨k - 1, by omega⟩
  by_cases hA : areRevoked l = true
  · rw [if_pos hA]
    simp only [impl_AddRevoked.j0]
    by_cases hT : tOk t = true
    · rw [show (!(decide (0 ≤ t ∧ t ≤ 10000))) = false by rw [show decide (0 ≤ t ∧ t ≤ 10000) = true from hT]; rfl, if_neg (by simp)]
      exact addLoop2 l s t hl hA hT l [] k (by simp) (by simp) (by omega)
    · rw [show (!(decide (0 ≤ t ∧ t ≤ 10000))) = true by rw [show decide (0 ≤ t ∧ t ≤ 10000) = false from by simpa [tOk] using hT]; rfl, if_pos rfl]
      unfold addFin
      rw [if_pos hA, if_neg hT]
      split <;> rfl
  · rw [if_neg hA]
    simp only [impl_AddRevoked.j0, if_true]
    unfold addFin
    rw [if_neg hA]
def mergeStep (acc : List S94) (x : S94) : List S94 := (addFin acc x.f1 (addS x.f0 x.f1 acc false)).1
theorem mergeStep_len (acc : List S94) (x : S94) : (mergeStep acc x).length ≤ acc.length + 1 := addFin_len _ _ _ (addS_len _ _ _)
theorem merge_len (b : List S94) : ∀ acc : List S94, (b.foldl mergeStep acc).length ≤ acc.length + b.length := by
  induction b with
  | nil => intro acc; simp
  | cons x r ih =>
    intro acc
    have h1 := ih (mergeStep acc x)
    have h2 := mergeStep_len acc x
    rw [List.foldl_cons, List.length_cons]
    omega
theorem mergeLoop2 (l : List S94) : ∀ (b a acc : List S94) (k : Nat), l = a ++ b → l.length ≤ 1048576 → acc.length + b.length ≤ 1048576 → b.length + 4194400 < k → impl_MergeRevoked.l0 k acc l (l.length : Int) (a.length : Int) = some (b.foldl mergeStep acc) := by
  intro b
  induction b with
  | nil =>
    intro a acc k he hl hacc hk
    obtain ⟨k, rfl⟩ : ∃ m, k = m + 1 := ⟨k - 1, by omega⟩
    have hla : l.length = a.length := by rw [he]; simp
    simp only [impl_MergeRevoked.l0]
    rw [if_neg (by omega)]
    rfl
  | cons x r ih =>
    intro a acc k he hl hacc hk
    obtain ⟨k, rfl⟩ : ∃ m, k = m + 1 := ⟨k - 1, by omega⟩
    have hla : l.length = a.length + (r.length + 1) := by rw [he]; simp
    have hx : rd_T94 l (a.length : Int) = x := by rw [rdT94, he, getD_mid]
    have hw : wrap64 ((a.length : Int) + 1) = (((a ++ [x]).length : Nat) : Int) := by rw [List.length_append]; unfold wrap64; simp; omega
    rw [List.length_cons] at hacc hk
    have h2 := mergeStep_len acc x
    simp only [impl_MergeRevoked.l0, hx]
    rw [if_pos (by omega), if_pos (by omega), if_pos (by omega), add2 acc x.f0 x.f1 (by omega) k (by omega), Option.bind_some, hw]
    exact ih (a ++ [x]) (mergeStep acc x) k (by rw [he]; simp) hl (by omega) (by omega)
theorem merge2 (a b : List S94) (h : a.length + b.length ≤ 1048576) (k : Nat) (hk : 6000000 < k) : impl_MergeRevoked.f k a b = some (b.foldl mergeStep a) := by
  have hlim : (a.length < 8796093022208) = True := eq_true (by omega)
  simp only [impl_MergeRevoked.f, Option.bind_some, List.nil_append, List.length_nil, Nat.zero_add, hlim, if_true]
  exact mergeLoop2 b b [] a k (by simp) (by omega) h (by omega)
def revokedAt (l : List S94) (s : Int) : Int := ((List.range l.length).find? fun i => (l.getD i z94).f0 == s).elim (-1) fun i => (l.getD i z94).f1
theorem revokedAt2 (l : List S94) (s : Int) : impl_RevokedAt.f l s = some (revokedAt l s) := by
  unfold impl_RevokedAt.f impl_RevokedAt.idx revokedAt
  rw [show impl_RevokedAt.out s = fun x => x.f0 == s from rfl]
  cases (List.range l.length).find? fun i => (l.getD i z94).f0 == s with
  | none => rfl
  | some i =>
    show some (if (i : Int) < 0 then -1 else (rd_T94 l (i : Int)).f1) = some (l.getD i z94).f1
    rw [if_neg (by omega), rdT94]
def knowsAt (a : List S94) (x : S94) : Bool := decide (0 ≤ revokedAt a x.f0 ∧ revokedAt a x.f0 ≤ x.f1)
def knowsMore (a b : List S94) : Bool := (List.range b.length).all fun i => knowsAt a (b.getD i z94)
theorem knows2 (a b : List S94) : impl_KnowsMore.f a b = some (knowsMore a b) := by
  have ho : ∀ x, impl_KnowsMore.out a x = !knowsAt a x := fun x => by
    have h := impl_KnowsMore.out_of a x
    simp only [impl_KnowsMore_1.f, revokedAt2, in2, Option.bind_some] at h
    exact (Option.some.inj h).symm
  unfold impl_KnowsMore.f
  congr 1
  unfold impl_KnowsMore.idx knowsMore
  cases hf : (List.range b.length).find? fun i => impl_KnowsMore.out a (b.getD i z94) with
  | none =>
    rw [List.find?_eq_none] at hf
    show (!decide (0 ≤ (-1 : Int))) = _
    rw [show (!decide (0 ≤ (-1 : Int))) = true from rfl, eq_comm, List.all_eq_true]
    intro i hi
    have := hf i hi
    rw [ho] at this
    simpa using this
  | some i =>
    rw [List.find?_range_eq_some] at hf
    show (!decide (0 ≤ (i : Int))) = _
    rw [decide_eq_true (show (0 : Int) ≤ (i : Int) by omega), eq_comm, show (!true) = false from rfl, List.all_eq_false]
    refine ⟨i, hf.2.1, ?_⟩
    have := hf.1
    rw [ho] at this
    simpa using this
theorem and255 (x : Int) : 0 ≤ Go.bits .and .i64 x 255 ∧ Go.bits .and .i64 x 255 ≤ 255 := by
  unfold Go.bits
  simp only
  have h : (BitVec.ofInt IntKind.i64.bits x &&& BitVec.ofInt IntKind.i64.bits 255).toNat ≤ 255 := by
    rw [BitVec.toNat_and]
    exact Nat.le_trans Nat.and_le_right (by decide)
  rw [IntKind.wrap_i64]
  omega
/-- What a draw gives: something, and the place is still one of the list. -/
def Drawn {α : Type} (l : List Int) (r : Option (α × Int × Int)) (Q : α → Prop) : Prop := ∃ v i h, r = some (v, i, h) ∧ Q v ∧ 0 ≤ i ∧ i ≤ (l.length : Int)
theorem dByte (l : List Int) (hl : l.length ≤ 1048576) (i h : Int) (h0 : 0 ≤ i) (h1 : i ≤ (l.length : Int)) : Drawn l (spec_l1Byte.f l i h) fun v => 0 ≤ v ∧ v ≤ 255 := by
  unfold spec_l1Byte.f
  by_cases c : i < (l.length : Int)
  · rw [if_pos c, if_pos h0, wrap_in (x := i + 1) (by omega) (by omega)]
    exact ⟨_, _, _, rfl, and255 _, by omega, by omega⟩
  · rw [if_neg c]
    exact ⟨_, _, _, rfl, and255 _, by omega, by omega⟩
theorem dBelow (l : List Int) (hl : l.length ≤ 1048576) (i h : Int) (h0 : 0 ≤ i) (h1 : i ≤ (l.length : Int)) (n : Int) (hn : 0 < n) : Drawn l (spec_l1Below.f l i h n) fun v => 0 ≤ v ∧ v < n := by
  unfold spec_l1Below.f
  rw [if_neg (by omega)]
  by_cases c : n ≤ 256
  · rw [if_pos c]
    obtain ⟨v, i1, s1, e, ⟨g0, _⟩, p0, p1⟩ := dByte l hl i h h0 h1
    rw [e, Option.bind_some, if_neg (by omega)]
    exact ⟨_, _, _, rfl, ⟨Int.tmod_nonneg _ g0, Int.tmod_lt_of_pos _ hn⟩, p0, p1⟩
  · rw [if_neg c]
    obtain ⟨v, i1, s1, e, ⟨g0, g1⟩, p0, p1⟩ := dByte l hl i h h0 h1
    obtain ⟨v2, i2, s2, e2, ⟨g2, g3⟩, p2, p3⟩ := dByte l hl i1 s1 p0 p1
    obtain ⟨v3, i3, s3, e3, ⟨g4, g5⟩, p4, p5⟩ := dByte l hl i2 s2 p2 p3
    simp only [e, e2, e3, Option.bind_some]
    rw [if_neg (by omega), wrap_in (x := v * 65536) (by omega) (by omega), wrap_in (x := v2 * 256) (by omega) (by omega), wrap_in (x := v * 65536 + v2 * 256) (by omega) (by omega), wrap_in (by omega) (by omega)]
    exact ⟨_, _, _, rfl, ⟨Int.tmod_nonneg _ (by omega), Int.tmod_lt_of_pos _ hn⟩, p4, p5⟩
theorem dOnce (l : List Int) (hl : l.length ≤ 1048576) (i h : Int) (h0 : 0 ≤ i) (h1 : i ≤ (l.length : Int)) (n : Int) (hn : 0 < n) : Drawn l (spec_l1Once.f l i h n) fun _ => True := by
  unfold spec_l1Once.f
  obtain ⟨v, i1, s1, e, _, p0, p1⟩ := dBelow l hl i h h0 h1 n hn
  rw [e, Option.bind_some]
  exact ⟨_, _, _, rfl, trivial, p0, p1⟩
theorem dInt (l : List Int) (hl : l.length ≤ 1048576) (i h : Int) (h0 : 0 ≤ i) (h1 : i ≤ (l.length : Int)) (c : List Int) (hc : 0 < c.length) : Drawn l (spec_l1Int.f l i h c) fun v => v ∈ c := by
  unfold spec_l1Int.f
  obtain ⟨v, i1, s1, e, ⟨g0, g1⟩, p0, p1⟩ := dBelow l hl i h h0 h1 (c.length : Int) (by omega)
  rw [e, Option.bind_some, if_pos g0, if_pos g1]
  refine ⟨_, _, _, rfl, ?_, p0, p1⟩
  unfold rd
  exact getD_mem c _ 0 (by omega)
def seedOf (l : List Int) : Nat → Int
  | 0 => wrap64 (193017 + (l.length : Int))
  | i + 1 => Go.bits .and .i64 (wrap64 ((wrap64 ((wrap64 (seedOf l i * 137)) + (wrap64 (l.getD i 0)))) + 11)) 1073741823
theorem new1 (l : List Int) (hl : l.length ≤ 1048576) (k : Nat) (hk : 1048577 < k) : spec_l1New.f k l = some (l, 0, seedOf l (min l.length 4000)) := by
  unfold spec_l1New.f
  refine run (fun k s i => spec_l1New.l0 k l s i) (seedOf l) (min l.length 4000) 0 _ ?_ ?_ k (by omega)
  · intro k i _ hi
    simp only [spec_l1New.l0, rd_nat]
    rw [if_pos (by omega), if_pos (by omega), if_pos (by omega), wrap_succ hi (by omega)]
    rfl
  · intro k _
    simp only [spec_l1New.l0]
    by_cases c : l.length < 4000
    · rw [Nat.min_eq_left (by omega), if_neg (by omega)]
    · rw [Nat.min_eq_right (by omega)]
      split
      · rw [if_neg (by omega)]
      · rfl
theorem dTime (l : List Int) (hl : l.length ≤ 1048576) (i h : Int) (h0 : 0 ≤ i) (h1 : i ≤ (l.length : Int)) : Drawn l (spec_l4Time.f l i h) fun _ => True := by
  unfold spec_l4Time.f
  obtain ⟨v, i1, s1, e, _, p0, p1⟩ := dOnce l hl i h h0 h1 8 (by omega)
  rw [e, Option.bind_some]
  by_cases c : v = true
  · rw [if_pos c]
    obtain ⟨v2, i2, s2, e2, _, p2, p3⟩ := dInt l hl i1 s1 p0 p1 [(-1), 0, 10000, 10001, 9223372036854775807, (-9223372036854775808)] (by simp)
    simp only [e2, Option.bind_some]
    exact ⟨_, _, _, rfl, trivial, p2, p3⟩
  · rw [if_neg c]
    obtain ⟨v2, i2, s2, e2, _, p2, p3⟩ := dBelow l hl i1 s1 p0 p1 40 (by omega)
    simp only [e2, Option.bind_some]
    exact ⟨_, _, _, rfl, trivial, p2, p3⟩
theorem revList_loop (l : List Int) (hl : l.length ≤ 1048576) (d : Nat) : ∀ (out : List S94) (k : Nat) (i h : Int), 0 ≤ i → i ≤ (l.length : Int) → out.length + d ≤ 1000 → d + 8000 < k → Drawn l (spec_l11List.l0 k out (d : Int) l i h) fun v => v.length ≤ out.length + d := by
  induction d with
  | zero =>
    intro out k i h h0 h1 _ hk
    obtain ⟨k, rfl⟩ : ∃ m, k = m + 1 := ⟨k - 1, by omega⟩
    simp only [spec_l11List.l0]
    rw [if_neg (by omega)]
    exact ⟨_, _, _, rfl, Nat.le_refl _, h0, h1⟩
  | succ d ih =>
    intro out k i h h0 h1 ho hk
    obtain ⟨k, rfl⟩ : ∃ m, k = m + 1 := ⟨k - 1, by omega⟩
    simp only [spec_l11List.l0]
    rw [if_pos (by omega)]
    obtain ⟨v, i, h, e, _, h0, h1⟩ := dBelow l hl i h h0 h1 9 (by omega)
    simp only [e, Option.bind_some]
    clear e
    obtain ⟨v2, i, h, e, _, h0, h1⟩ := dBelow l hl i h h0 h1 30 (by omega)
    simp only [e, Option.bind_some]
    clear e
    rw [add1 out _ v2 (by omega) k (by omega), Option.bind_some, wrap_in (x := ((d + 1 : Nat) : Int) - 1) (by omega) (by omega), show ((d + 1 : Nat) : Int) - 1 = (d : Int) by omega]
    have hle := addFin_len out v2 _ (addS_len (wrap64 (1 + v)) v2 out)
    obtain ⟨w, i2, s2, e2, q, g0, g1⟩ := ih (addFin out v2 (addS (wrap64 (1 + v)) v2 out false)).1 k i h h0 h1 (by omega) (by omega)
    exact ⟨w, i2, s2, e2, by show w.length ≤ out.length + (d + 1); omega, g0, g1⟩
theorem dRevList (l : List Int) (hl : l.length ≤ 1048576) (i h : Int) (h0 : 0 ≤ i) (h1 : i ≤ (l.length : Int)) (k : Nat) (hk : 10000 < k) : Drawn l (spec_l11List.f k l i h) fun v => v.length ≤ 6 := by
  unfold spec_l11List.f
  obtain ⟨v, i, h, e, ⟨g0, g1⟩, h0, h1⟩ := dBelow l hl i h h0 h1 6 (by omega)
  simp only [e, Option.bind_some]
  obtain ⟨n, rfl⟩ : ∃ n : Nat, v = (n : Int) := ⟨v.toNat, by omega⟩
  obtain ⟨v2, i2, s2, e2, q, p0, p1⟩ := revList_loop l hl n [] k i h h0 h1 (by simp; omega) (by omega)
  have hq : v2.length ≤ 6 := by simp at q; omega
  exact ⟨v2, i2, s2, e2, hq, p0, p1⟩
theorem revFull_loop (l : List Int) (hl : l.length ≤ 1048576) (d : Nat) : ∀ (out : List S94) (k : Nat) (i h : Int) (x : Nat), x + d = 40 → 0 ≤ i → i ≤ (l.length : Int) → out.length + d ≤ 1000 → d + 8000 < k → ∃ L s t, spec_DrawAddRevoked.l0 k out (x : Int) l i h = some (L, s, t) ∧ L.length ≤ out.length + d := by
  induction d with
  | zero =>
    intro out k i h x hx h0 h1 _ hk
    obtain ⟨k, rfl⟩ : ∃ m, k = m + 1 := ⟨k - 1, by omega⟩
    simp only [spec_DrawAddRevoked.l0]
    rw [if_neg (by omega)]
    obtain ⟨v, i, h, e, _, h0, h1⟩ := dInt l hl i h h0 h1 [0, 3, 5, 9999, 10000, 7] (by simp)
    simp only [e, Option.bind_some]
    clear e
    obtain ⟨v2, i, h, e, _, h0, h1⟩ := dTime l hl i h h0 h1
    simp only [e, Option.bind_some]
    exact ⟨_, _, _, rfl, Nat.le_refl _⟩
  | succ d ih =>
    intro out k i h x hx h0 h1 ho hk
    obtain ⟨k, rfl⟩ : ∃ m, k = m + 1 := ⟨k - 1, by omega⟩
    simp only [spec_DrawAddRevoked.l0]
    rw [if_pos (by omega), add1 out _ _ (by omega) k (by omega), Option.bind_some, wrap_in (x := (x : Int) + 1) (by omega) (by omega), show (x : Int) + 1 = ((x + 1 : Nat) : Int) by omega]
    have hle := addFin_len out (x : Int) _ (addS_len (wrap64 (100 + (x : Int))) (x : Int) out)
    obtain ⟨L, s, t, e, q⟩ := ih (addFin out (x : Int) (addS (wrap64 (100 + (x : Int))) (x : Int) out false)).1 k i h (x + 1) (by omega) h0 h1 (by omega) (by omega)
    exact ⟨L, s, t, e, by omega⟩
theorem dAddRevoked (l : List Int) (hl : l.length ≤ 1048576) (k : Nat) (hk : 1048577 < k) : ∃ L s t, spec_DrawAddRevoked.f k l = some (L, s, t) ∧ L.length ≤ 1000 := by
  unfold spec_DrawAddRevoked.f
  rw [new1 l hl k hk, Option.bind_some]
  obtain ⟨L, i, h, e, q, h0, h1⟩ := dRevList l hl 0 (seedOf l (min l.length 4000)) (by omega) (by omega) k (by omega)
  simp only [e, Option.bind_some]
  clear e
  obtain ⟨v, i, h, e, _, h0, h1⟩ := dOnce l hl i h h0 h1 10 (by omega)
  simp only [e, Option.bind_some]
  clear e
  by_cases c : v = true
  · rw [if_pos c]
    obtain ⟨L2, s, t, e, q2⟩ := revFull_loop l hl 40 L k i h 0 (by omega) h0 h1 (by omega) (by omega)
    exact ⟨L2, s, t, e, by omega⟩
  · rw [if_neg c]
    obtain ⟨v, i, h, e, _, h0, h1⟩ := dInt l hl i h h0 h1 [0, 3, 5, 9999, 10000, 7] (by simp)
    simp only [e, Option.bind_some]
    clear e
    obtain ⟨v2, i, h, e, _, h0, h1⟩ := dTime l hl i h h0 h1
    simp only [e, Option.bind_some]
    exact ⟨_, _, _, rfl, by omega⟩
theorem dMergeRevoked (l : List Int) (hl : l.length ≤ 1048576) (k : Nat) (hk : 1048577 < k) : ∃ a b, spec_DrawMergeRevoked.f k l = some (a, b) ∧ a.length ≤ 6 ∧ b.length ≤ 6 := by
  unfold spec_DrawMergeRevoked.f
  rw [new1 l hl k hk, Option.bind_some]
  obtain ⟨a, i, h, e, q, h0, h1⟩ := dRevList l hl 0 (seedOf l (min l.length 4000)) (by omega) (by omega) k (by omega)
  simp only [e, Option.bind_some]
  clear e
  obtain ⟨b, i, h, e, q2, h0, h1⟩ := dRevList l hl i h h0 h1 k (by omega)
  simp only [e, Option.bind_some]
  exact ⟨_, _, rfl, q, q2⟩
theorem add_cases (s t : Int) (l : List S94) (hP : l.Pairwise (fun x y => x.f0 < y.f0)) : ∃ a b, (∀ y ∈ a, y.f0 < s) ∧ (∀ y ∈ b, s < y.f0) ∧ ((l = a ++ b ∧ addS s t l false = a ++ ⟨s, t⟩ :: b) ∨ ∃ x, l = a ++ x :: b ∧ x.f0 = s ∧ addS s t l false = a ++ ⟨x.f0, mn x.f1 t⟩ :: b) := by
  induction l with
  | nil => exact ⟨[], [], by simp, by simp, .inl ⟨rfl, rfl⟩⟩
  | cons x r ih =>
    rw [List.pairwise_cons] at hP
    by_cases h : x.f0 < s
    · have hs := addS_skip s t r [x] (by simpa using h)
      obtain ⟨a, b, ha, hb, hc⟩ := ih hP.2
      refine ⟨x :: a, b, fun y hy => ?_, hb, ?_⟩
      · rcases List.mem_cons.1 hy with rfl | hy
        · exact h
        · exact ha y hy
      · rw [List.singleton_append] at hs
        rcases hc with ⟨h1, h2⟩ | ⟨z, h1, h2, h3⟩
        · exact .inl ⟨by rw [h1]; rfl, by rw [hs, h2]; rfl⟩
        · exact .inr ⟨z, by rw [h1]; rfl, h2, by rw [hs, h3]; rfl⟩
    · by_cases hq : x.f0 = s
      · have hr : ∀ y ∈ r, s < y.f0 := fun y hy => by have := hP.1 y hy; omega
        refine ⟨[], r, by simp, hr, .inr ⟨x, rfl, hq, ?_⟩⟩
        rw [addS, if_neg (by omega), Bool.false_or, decide_eq_true hq, addS_rest s t r hr]
        simp [addOne, hq]
      · have hr : ∀ y ∈ r, s < y.f0 := fun y hy => by have := hP.1 y hy; omega
        refine ⟨[], x :: r, by simp, fun y hy => ?_, .inl ⟨rfl, ?_⟩⟩
        · rcases List.mem_cons.1 hy with rfl | hy
          · omega
          · exact hr y hy
        · rw [addS, if_pos ⟨rfl, by omega⟩, addS_rest s t r hr]
          simp [addOne, hq]
def knows (m a : List S94) : Prop := ∀ x ∈ a, ∃ y ∈ m, y.f0 = x.f0 ∧ y.f1 ≤ x.f1
theorem knows_refl (m : List S94) : knows m m := fun x hx => ⟨x, hx, rfl, Int.le_refl _⟩
theorem knows_trans {a b c : List S94} (h : knows a b) (h' : knows b c) : knows a c := fun x hx => by
  obtain ⟨y, hy, e1, l1⟩ := h' x hx
  obtain ⟨z, hz, e2, l2⟩ := h y hy
  exact ⟨z, hz, by omega, by omega⟩
theorem mn_le (a b : Int) : mn a b ≤ a ∧ mn a b ≤ b := by
  unfold mn
  split <;> omega
theorem add_knows (s t : Int) (l : List S94) (hP : l.Pairwise (fun x y => x.f0 < y.f0)) : knows (addS s t l false) l ∧ ∃ y ∈ addS s t l false, y.f0 = s ∧ y.f1 ≤ t := by
  obtain ⟨a, b, ha, hb, ⟨h1, h2⟩ | ⟨x, h1, h2, h3⟩⟩ := add_cases s t l hP
  · rw [h2, h1]
    refine ⟨fun y hy => ⟨y, ?_, rfl, Int.le_refl _⟩, ⟨s, t⟩, by simp, rfl, Int.le_refl _⟩
    rcases List.mem_append.1 hy with hy | hy <;> simp [hy]
  · rw [h3, h1]
    refine ⟨fun y hy => ?_, ⟨x.f0, mn x.f1 t⟩, by simp, h2, (mn_le _ _).2⟩
    rcases List.mem_append.1 hy with hy | hy
    · exact ⟨y, by simp [hy], rfl, Int.le_refl _⟩
    · rcases List.mem_cons.1 hy with rfl | hy
      · exact ⟨_, List.mem_append_right _ List.mem_cons_self, rfl, (mn_le _ _).1⟩
      · exact ⟨y, by simp [hy], rfl, Int.le_refl _⟩
theorem add_ok (s t : Int) (l : List S94) (h : areRevoked l = true) (hs : 1 ≤ s ∧ s ≤ 9999) (ht : 0 ≤ t ∧ t ≤ 10000) (hl : l.length + 1 ≤ 40) : areRevoked (addS s t l false) = true := by
  obtain ⟨hM, hP, _⟩ := (okR_iff l).1 h
  rw [okR_iff]
  have hlen := addS_len s t l
  obtain ⟨a, b, ha, hb, ⟨h1, h2⟩ | ⟨x, h1, h2, h3⟩⟩ := add_cases s t l hP
  · rw [h1, List.pairwise_append] at hP
    refine ⟨?_, ?_, by omega⟩
    · rw [h2]
      intro y hy
      rcases List.mem_append.1 hy with hy | hy
      · exact hM y (by rw [h1]; simp [hy])
      · rcases List.mem_cons.1 hy with rfl | hy
        · exact ⟨hs, ht⟩
        · exact hM y (by rw [h1]; simp [hy])
    · rw [h2, List.pairwise_append, List.pairwise_cons]
      refine ⟨hP.1, ⟨fun y hy => hb y hy, hP.2.1⟩, fun y hy z hz => ?_⟩
      rcases List.mem_cons.1 hz with rfl | hz
      · exact ha y hy
      · exact hP.2.2 y hy z hz
  · have hx := hM x (by rw [h1]; simp)
    have hmn : 0 ≤ mn x.f1 t ∧ mn x.f1 t ≤ 10000 := by unfold mn; split <;> omega
    rw [h1, List.pairwise_append, List.pairwise_cons] at hP
    refine ⟨?_, ?_, by omega⟩
    · rw [h3]
      intro y hy
      rcases List.mem_append.1 hy with hy | hy
      · exact hM y (by rw [h1]; simp [hy])
      · rcases List.mem_cons.1 hy with rfl | hy
        · exact ⟨hx.1, hmn⟩
        · exact hM y (by rw [h1]; simp [hy])
    · rw [h3, List.pairwise_append, List.pairwise_cons]
      refine ⟨hP.1, ⟨fun y hy => hP.2.1.1 y hy, hP.2.1.2⟩, fun y hy z hz => ?_⟩
      rcases List.mem_cons.1 hz with rfl | hz
      · exact hP.2.2 y hy x (by simp)
      · exact hP.2.2 y hy z (by simp [hz])
theorem rev_mem (m : List S94) (h : areRevoked m = true) (y : S94) (hy : y ∈ m) : revokedAt m y.f0 = y.f1 := by
  obtain ⟨hM, hP, _⟩ := (okR_iff m).1 h
  obtain ⟨j, hj, rfl⟩ := List.mem_iff_getElem.1 hy
  have hf : ((List.range m.length).find? fun i => (m.getD i z94).f0 == (m[j]).f0) = some j := by
    rw [List.find?_range_eq_some]
    refine ⟨by rw [getD_get _ _ _ hj]; simp, by simpa using hj, fun i hi => ?_⟩
    rw [getD_get m i z94 (by omega)]
    have := (List.pairwise_iff_getElem.1 hP) i j (by omega) hj hi
    simp
    omega
  unfold revokedAt
  rw [hf]
  show (m.getD j z94).f1 = _
  rw [getD_get _ _ _ hj]
theorem knows_ok (m a : List S94) (h : areRevoked m = true) (hk : knows m a) : knowsMore m a = true := by
  obtain ⟨hM, _, _⟩ := (okR_iff m).1 h
  unfold knowsMore
  rw [List.all_eq_true]
  intro i hi
  obtain ⟨y, hy, e, l⟩ := hk (a.getD i z94) (getD_mem a i _ (List.mem_range.1 hi))
  unfold knowsAt
  rw [← e, rev_mem m h y hy]
  have := hM y hy
  exact decide_eq_true ⟨this.2.1, l⟩
theorem merge_ok (b : List S94) : ∀ acc : List S94, areRevoked acc = true → (∀ x ∈ b, (1 ≤ x.f0 ∧ x.f0 ≤ 9999) ∧ (0 ≤ x.f1 ∧ x.f1 ≤ 10000)) → acc.length + b.length ≤ 40 → areRevoked (b.foldl mergeStep acc) = true ∧ knows (b.foldl mergeStep acc) acc ∧ knows (b.foldl mergeStep acc) b := by
  induction b with
  | nil => intro acc h _ _; exact ⟨h, knows_refl _, fun x hx => absurd hx (by simp)⟩
  | cons x r ih =>
    intro acc h hb hl
    rw [List.length_cons] at hl
    have hx := hb x (by simp)
    have hP := ((okR_iff acc).1 h).2.1
    have hok := add_ok x.f0 x.f1 acc h hx.1 hx.2 (by omega)
    have hst : mergeStep acc x = addS x.f0 x.f1 acc false := by
      unfold mergeStep addFin
      rw [if_pos h, if_pos hok, if_pos (show tOk x.f1 = true from decide_eq_true hx.2)]
    have hlen := addS_len x.f0 x.f1 acc
    obtain ⟨k1, y, hy, e1, l1⟩ := add_knows x.f0 x.f1 acc hP
    obtain ⟨i1, i2, i3⟩ := ih (mergeStep acc x) (by rw [hst]; exact hok) (fun y hy => hb y (by simp [hy])) (by rw [hst]; omega)
    rw [hst] at i1 i2 i3
    rw [List.foldl_cons, hst]
    refine ⟨i1, knows_trans i2 k1, fun z hz => ?_⟩
    rcases List.mem_cons.1 hz with rfl | hz
    · obtain ⟨q, hq, e2, l2⟩ := i2 y hy
      exact ⟨q, hq, by omega, by omega⟩
    · exact i3 z hz
theorem part2 (L : List S94) (s : Int) (k : Nat) : laws_FnRevocation.j1 (k + 1) L s false = some true := by
  simp only [laws_FnRevocation.j1, revokedAt2, impl_IsRevoked.f, in2, Option.bind_some]
  generalize revokedAt L s = r
  rw [if_neg (by simp)]
  have h : (0 ≤ r ∧ r ≤ r) = (r ≥ 0) := propext ⟨fun h => h.1, fun h => ⟨h, Int.le_refl _⟩⟩
  simp only [h]
  simp
theorem part1 (l : List Int) (hl : l.length ≤ 1048576) (L : List S94) (s : Int) (k : Nat) (hk : 8000000 < k) : laws_FnRevocation.j0 (k + 1 + 1) l L s false = some true := by
  obtain ⟨a, b, e, ha, hb⟩ := dMergeRevoked l hl (k + 1) (by omega)
  simp only [laws_FnRevocation.j0, e, Option.bind_some, merge2 a b (by omega) (k + 1) (by omega), areRevoked2 a (by omega) (k + 1) (by omega), areRevoked2 b (by omega) (k + 1) (by omega)]
  rw [if_neg (by simp)]
  have hml := merge_len b a
  by_cases h1 : areRevoked a = true
  · rw [if_pos h1]
    by_cases h2 : areRevoked b = true
    · rw [if_pos h2, wrap_in (by omega) (by omega), if_pos (by omega)]
      obtain ⟨i1, i2, i3⟩ := merge_ok b a h1 ((okR_iff b).1 h2).1 (by omega)
      simp only [areRevoked2 (b.foldl mergeStep a) (by omega) (k + 1) (by omega), knows2, i1, knows_ok _ _ i1 i2, knows_ok _ _ i1 i3, Option.bind_some, if_true, Bool.not_true]
      exact part2 L s k
    · rw [if_neg h2]
      exact part2 L s k
  · rw [if_neg h1]
    exact part2 L s k
theorem FnRevocation : laws_FnRevocation.Pure := by
  intro l hw
  suffices h : ∀ k, 8000000 < k → laws_FnRevocation.f (k + 1 + 1) l = some true from ⟨8000001 + 1 + 1, h _ (by omega)⟩
  intro k hk
  unfold laws_FnRevocation.f laws_big.f
  rw [Option.bind_some]
  by_cases h : (l.length : Int) > 1048576
  · rw [if_pos (decide_eq_true h)]
  · rw [if_neg (by simpa using h)]
    obtain ⟨L, s, t, e, hL⟩ := dAddRevoked l (by omega) (k + 1 + 1) (by omega)
    simp only [e, Option.bind_some, add2 L s t (by omega) (k + 1 + 1) (by omega)]
    have P := part1 l (by omega) L s k hk
    have hlen := addS_len s t L
    unfold addFin
    by_cases h1 : areRevoked L = true
    · by_cases h2 : areRevoked (addS s t L false) = true
      · by_cases h3 : tOk t = true
        · obtain ⟨k1, y, hy, e1, l1⟩ := add_knows s t L ((okR_iff L).1 h1).2.1
          have hr := rev_mem _ h2 y hy
          rw [e1] at hr
          have hM := ((okR_iff _).1 h2).1 y hy
          have g1 : decide (0 ≤ revokedAt (addS s t L false) s ∧ revokedAt (addS s t L false) s ≤ t) = true := decide_eq_true (by omega)
          have g2 : decide (revokedAt (addS s t L false) s > t) = false := decide_eq_false (by omega)
          simp only [h1, h2, h3, if_true, areRevoked2 (addS s t L false) (by omega) (k + 1 + 1) (by omega), knows2, knows_ok _ _ h2 k1, impl_IsRevoked.f, revokedAt2, in2, Option.bind_some, g1, g2]
          exact P
        · simp only [h1, h2, h3, if_true, Bool.false_eq_true, if_false]
          exact P
      · simp only [h1, h2, if_true, Bool.false_eq_true, if_false]
        exact P
    · simp only [h1, Bool.false_eq_true, if_false]
      exact P
end Go.Proofs.Ytgmgoabohppkeaa.Pure
