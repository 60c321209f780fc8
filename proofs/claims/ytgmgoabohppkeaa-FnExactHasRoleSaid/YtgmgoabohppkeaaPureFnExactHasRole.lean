/- FnExactHasRole: the program's HasRole answers what the reference's answers, for all lists and stores; it leaves what it is given. Conditions: none. -/
import Derived.Test.YtgmgoabohppkeaaLib
import Derived.Test.YtgmgoabohppkeaaXFnExactHasRolex7
namespace Go.Proofs.Ytgmgoabohppkeaa.Pure
open Go.RowKit Go.Proofs.Ytgmgoabohppkeaa.XFnExactHasRole Go.Proofs.YtgmgoabohppkeaaW.PrintWords
set_option linter.unusedVariables false
set_option linter.unusedSimpArgs false
open Go.Proofs.YtgmgoabohppkeaaLib
theorem rdT80 (l : List S80) (i : Nat) : rd_T80 l (i : Int) = l.getD i z80 := by
  unfold rd_T80
  rw [Int.toNat_natCast]
theorem rdT78 (l : List S78) (i : Nat) : rd_T78 l (i : Int) = l.getD i z78 := by
  unfold rd_T78
  rw [Int.toNat_natCast]
theorem szIncludes (l : List S80) (a : Int) (h0 : 0 ≤ a) (h1 : a ≤ 1048576) (hl : l.length ≤ maxLen) : laws_szIncludesS.f l a = some (if (l.length : Int) ≤ a then a - (l.length : Int) else -1) := by
  unfold maxLen at hl
  unfold laws_szIncludesS.f
  rw [wrap_in (by omega) (by omega)]
  by_cases h : (l.length : Int) ≤ a
  · rw [if_pos h, if_neg (by omega)]
  · rw [if_neg h, if_pos (by omega)]
def cvIncludes (x : S80) : S78 := ⟨x.f0, x.f1⟩
theorem toIncludes (l : List S80) (hl : l.length ≤ 1048576) (k : Nat) (hk : l.length < k) : laws_toIncludesS.f k l = some (l.map cvIncludes) := by
  unfold laws_toIncludesS.f
  rw [if_pos (by omega), if_pos (by omega), Int.toNat_natCast]
  refine (run (fun k s i => laws_toIncludesS.l0 k l s i) (put (fun i => (⟨(l.getD i z80).f0, (l.getD i z80).f1⟩ : S78)) (List.replicate l.length z78)) l.length 0 (l.map cvIncludes) ?_ ?_ k (by omega))
  · intro k i _ hi
    have hlen : (put (fun i => (⟨(l.getD i z80).f0, (l.getD i z80).f1⟩ : S78)) (List.replicate l.length z78) i).length = l.length := by rw [put_length _ _ _ (by simp; omega), List.length_replicate]
    simp only [laws_toIncludesS.l0, laws_toIncludes.f, Option.bind_some, rdT80]
    rw [if_pos (by omega), if_pos (by omega), if_pos (by omega), wrap_succ hi (by omega), Int.toNat_natCast, put_set (fun i => (⟨(l.getD i z80).f0, (l.getD i z80).f1⟩ : S78)) _ i (by simp; omega)]
  · intro k _
    simp only [laws_toIncludesS.l0]
    rw [if_neg (by omega), put_all _ _ (by simp), map_range_getD l z80 (fun x => (⟨x.f0, x.f1⟩ : S78))]
    rfl
theorem eqIncludes_self (l : List S78) (hl : l.length ≤ 1099511627776) (k : Nat) (hk : l.length < k) : laws_eqIncludesS.f k l l = some true := by
  unfold laws_eqIncludesS.f
  rw [if_pos rfl]
  refine run (fun k (_ : Unit) i => laws_eqIncludesS.l0 k l l i) (fun _ => ()) l.length 0 true ?_ ?_ k (by omega)
  · intro k i _ hi
    simp only [laws_eqIncludesS.l0, laws_eqIncludes.f, Option.bind_some, if_true]
    rw [if_pos (by omega), if_pos (by omega), if_pos (by omega), wrap_succ hi hl]
  · intro k _
    simp only [laws_eqIncludesS.l0]
    rw [if_neg (by omega)]
theorem rdT82 (l : List S82) (i : Nat) : rd_T82 l (i : Int) = l.getD i z82 := by
  unfold rd_T82
  rw [Int.toNat_natCast]
theorem rdT75 (l : List S75) (i : Nat) : rd_T75 l (i : Int) = l.getD i z75 := by
  unfold rd_T75
  rw [Int.toNat_natCast]
theorem szFact (l : List S82) (a : Int) (h0 : 0 ≤ a) (h1 : a ≤ 1048576) (hl : l.length ≤ maxLen) : laws_szFactS.f l a = some (if (l.length : Int) ≤ a then a - (l.length : Int) else -1) := by
  unfold maxLen at hl
  unfold laws_szFactS.f
  rw [wrap_in (by omega) (by omega)]
  by_cases h : (l.length : Int) ≤ a
  · rw [if_pos h, if_neg (by omega)]
  · rw [if_neg h, if_pos (by omega)]
def cvFact (x : S82) : S75 := ⟨x.f0, x.f1, x.f2, x.f3, x.f4, x.f5⟩
theorem toFact (l : List S82) (hl : l.length ≤ 1048576) (k : Nat) (hk : l.length < k) : laws_toFactS.f k l = some (l.map cvFact) := by
  unfold laws_toFactS.f
  rw [if_pos (by omega), if_pos (by omega), Int.toNat_natCast]
  refine (run (fun k s i => laws_toFactS.l0 k l s i) (put (fun i => (⟨(l.getD i z82).f0, (l.getD i z82).f1, (l.getD i z82).f2, (l.getD i z82).f3, (l.getD i z82).f4, (l.getD i z82).f5⟩ : S75)) (List.replicate l.length z75)) l.length 0 (l.map cvFact) ?_ ?_ k (by omega))
  · intro k i _ hi
    have hlen : (put (fun i => (⟨(l.getD i z82).f0, (l.getD i z82).f1, (l.getD i z82).f2, (l.getD i z82).f3, (l.getD i z82).f4, (l.getD i z82).f5⟩ : S75)) (List.replicate l.length z75) i).length = l.length := by rw [put_length _ _ _ (by simp; omega), List.length_replicate]
    simp only [laws_toFactS.l0, laws_toFact.f, Option.bind_some, rdT82]
    rw [if_pos (by omega), if_pos (by omega), if_pos (by omega), wrap_succ hi (by omega), Int.toNat_natCast, put_set (fun i => (⟨(l.getD i z82).f0, (l.getD i z82).f1, (l.getD i z82).f2, (l.getD i z82).f3, (l.getD i z82).f4, (l.getD i z82).f5⟩ : S75)) _ i (by simp; omega)]
  · intro k _
    simp only [laws_toFactS.l0]
    rw [if_neg (by omega), put_all _ _ (by simp), map_range_getD l z82 (fun x => (⟨x.f0, x.f1, x.f2, x.f3, x.f4, x.f5⟩ : S75))]
    rfl
theorem eqFact_self (l : List S75) (hl : l.length ≤ 1099511627776) (k : Nat) (hk : l.length < k) : laws_eqFactS.f k l l = some true := by
  unfold laws_eqFactS.f
  rw [if_pos rfl]
  refine run (fun k (_ : Unit) i => laws_eqFactS.l0 k l l i) (fun _ => ()) l.length 0 true ?_ ?_ k (by omega)
  · intro k i _ hi
    simp only [laws_eqFactS.l0, laws_eqFact.f, Option.bind_some, if_true]
    rw [if_pos (by omega), if_pos (by omega), if_pos (by omega), wrap_succ hi hl]
  · intro k _
    simp only [laws_eqFactS.l0]
    rw [if_neg (by omega)]
theorem in1 (x y z : Int) : spec_l1In.f x y z = some (decide (y ≤ x ∧ x ≤ z)) := by
  unfold spec_l1In.f
  by_cases h : x ≥ y
  · rw [if_pos h]; simp [show y ≤ x from h]
  · rw [if_neg h]; simp; omega
theorem in2 (x y z : Int) : impl_InRange.f x y z = some (decide (y ≤ x ∧ x ≤ z)) := by
  unfold impl_InRange.f
  by_cases h : y ≤ x
  · rw [if_pos h]; simp [h]
  · rw [if_neg h]; simp; omega
def timeOk (t : Int) : Bool := decide (0 ≤ t ∧ t ≤ 10000)
theorem time1 (t : Int) : spec_IsTime.f t = some (timeOk t) := by
  simp only [spec_IsTime.f, in1, Option.bind_some]
  rfl
theorem time2 (t : Int) : impl_IsTime.f t = some (timeOk t) := by
  simp only [impl_IsTime.f, in2, Option.bind_some]
  rfl
def hasKind (n k : Int) : Bool := decide (10 ≤ n ∧ n ≤ 49) && (wrap64 (Int.tdiv n 10) == k)
theorem kind1 (n k : Int) : spec_HasKind.f n k = some (hasKind n k) := by
  simp only [spec_HasKind.f, spec_IsName.f, in1, Option.bind_some, ite_and]
  rfl
theorem kind2 (n k : Int) : impl_HasKind.f n k = some (hasKind n k) := by
  simp only [impl_HasKind.f, impl_KindOf.f, impl_IsName.f, in2, Option.bind_some]
  unfold hasKind
  cases decide (10 ≤ n ∧ n ≤ 49) <;> rfl
def claimOk (a b c : Int) : Bool :=
  if a = 1 then hasKind b 1 && decide (0 ≤ c ∧ c ≤ 5) else if a = 2 then hasKind b 1 && hasKind c 2 else if a = 3 then hasKind b 2 && decide (0 ≤ c ∧ c ≤ 3) else if a = 4 then hasKind b 3 && decide (0 ≤ c ∧ c ≤ 3) else false
def isFact (a b c d e f : Int) : Bool := claimOk a b c && (decide (0 ≤ d ∧ d ≤ 9) && (timeOk e && (timeOk f && decide (e ≤ f))))
theorem fact1 (a b c d e f : Int) : spec_IsFact.f a b c d e f = some (isFact a b c d e f) := by
  simp only [spec_IsFact.f, kind1, in1, time1, Option.bind_some, ite_and]
  unfold isFact claimOk
  by_cases h1 : a = 1
  · simp only [if_pos h1, Bool.and_assoc]
  by_cases h2 : a = 2
  · simp only [if_neg h1, if_pos h2, Bool.and_assoc]
  by_cases h3 : a = 3
  · simp only [if_neg h1, if_neg h2, if_pos h3, Bool.and_assoc]
  by_cases h4 : a = 4
  · simp only [if_neg h1, if_neg h2, if_neg h3, if_pos h4, Bool.and_assoc]
  · simp only [if_neg h1, if_neg h2, if_neg h3, if_neg h4, Bool.false_and]
theorem fact2 (a b c d e f : Int) : impl_IsFact.f a b c d e f = some (isFact a b c d e f) := by
  simp only [impl_IsFact.f, impl_isClaim.f, kind2, in2, time2, Option.bind_some, ite_and]
  unfold isFact claimOk
  by_cases h1 : a = 1
  · simp only [if_pos h1, Option.bind_some, ite_and]
  by_cases h2 : a = 2
  · simp only [if_neg h1, if_pos h2, Option.bind_some, ite_and]
  by_cases h3 : a = 3
  · simp only [if_neg h1, if_neg h2, if_pos h3, Option.bind_some, ite_and]
  by_cases h4 : a = 4
  · simp only [if_neg h1, if_neg h2, if_neg h3, if_pos h4, Option.bind_some, ite_and]
  · simp only [if_neg h1, if_neg h2, if_neg h3, if_neg h4, Option.bind_some, ite_and]
def within (a b t : Int) : Bool := timeOk a && (timeOk b && (timeOk t && decide (a ≤ t ∧ t ≤ b)))
theorem within1 (a b t : Int) : spec_IsWithin.f a b t = some (within a b t) := by
  simp only [spec_IsWithin.f, time1, Option.bind_some]
  unfold within
  cases timeOk a
  · rfl
  cases timeOk b
  · rfl
  cases timeOk t
  · rfl
  simp only [if_true, Bool.true_and]
  by_cases h : a ≤ t
  · rw [if_pos h]; simp [h]
  · rw [if_neg h]; simp [h]
theorem within2 (a b t : Int) : impl_IsWithin.f a b t = some (within a b t) := by
  simp only [impl_IsWithin.f, time2, in2, Option.bind_some, ite_and]
  rfl
def ageOf (a b : Int) : Int := if timeOk a = true then if timeOk b = true then if a > b then -1 else wrap64 (b - a) else -1 else -1
theorem age1 (a b : Int) : spec_AgeOf.f a b = some (ageOf a b) := by
  simp only [spec_AgeOf.f, time1, Option.bind_some]
  unfold ageOf
  split
  · split
    · split <;> rfl
    · rfl
  · rfl
theorem age2 (a b : Int) : impl_AgeOf.f a b = some (ageOf a b) := by
  simp only [impl_AgeOf.f, time2, Option.bind_some]
  unfold ageOf
  split
  · split
    · split <;> rfl
    · rfl
  · rfl
theorem age_cases (a b : Int) : ageOf a b = -1 ∨ 0 ≤ ageOf a b := by
  unfold ageOf
  split
  · rename_i h1
    split
    · rename_i h2
      split
      · exact .inl rfl
      · have g1 := of_decide_eq_true (show decide (0 ≤ a ∧ a ≤ 10000) = true from h1)
        have g2 := of_decide_eq_true (show decide (0 ≤ b ∧ b ≤ 10000) = true from h2)
        rw [wrap_in (by omega) (by omega)]
        right
        omega
    · exact .inl rfl
  · exact .inl rfl
def fresh (a b g : Int) : Bool := decide (0 ≤ ageOf a b) && decide (ageOf a b ≤ g)
theorem fresh1 (a b g : Int) : spec_IsFresh.f a b g = some (fresh a b g) := by
  simp only [spec_IsFresh.f, age1, Option.bind_some]
  unfold fresh
  by_cases h : 0 ≤ ageOf a b
  · rw [if_pos (show ageOf a b ≥ 0 from h), decide_eq_true h, Bool.true_and]
  · rw [if_neg (show ¬ ageOf a b ≥ 0 from h), decide_eq_false h, Bool.false_and]
def holds (f0 f1 f2 f3 f4 f5 now age : Int) : Bool := isFact f0 f1 f2 f3 f4 f5 && (within f4 f5 now && fresh f4 now age)
theorem holds1 (f0 f1 f2 f3 f4 f5 now age : Int) : spec_HoldsAt.f f0 f1 f2 f3 f4 f5 now age = some (holds f0 f1 f2 f3 f4 f5 now age) := by
  simp only [spec_HoldsAt.f, fact1, within1, fresh1, Option.bind_some, ite_and]
  rfl
theorem holds2 (f0 f1 f2 f3 f4 f5 now age : Int) : impl_HoldsAt.f f0 f1 f2 f3 f4 f5 now age = some (holds f0 f1 f2 f3 f4 f5 now age) := by
  simp only [impl_HoldsAt.f, fact2, within2, age2, Option.bind_some, ite_and]
  unfold holds
  by_cases h : within f4 f5 now = true
  · have h' := h
    unfold within at h'
    simp only [Bool.and_eq_true, decide_eq_true_eq] at h'
    obtain ⟨g1, _, g3, g4⟩ := h'
    have e : 0 ≤ ageOf f4 now := by
      have k1 := of_decide_eq_true (show decide (0 ≤ f4 ∧ f4 ≤ 10000) = true from g1)
      have k2 := of_decide_eq_true (show decide (0 ≤ now ∧ now ≤ 10000) = true from g3)
      unfold ageOf
      rw [if_pos g1, if_pos g3, if_neg (by omega), wrap_in (by omega) (by omega)]
      omega
    unfold fresh
    rw [decide_eq_true e, Bool.true_and]
  · rw [Bool.eq_false_iff.2 h]
    rfl
def has (l : List Int) (n : Int) : Bool := (List.range l.length).any fun i => l.getD i 0 == n
theorem index2 (l : List Int) (n : Int) (hl : l.length ≤ 1099511627776) (k : Nat) (hk : l.length < k) : slices_Index_int_int.f k l n = some (((List.range l.length).find? fun i => l.getD i 0 == n).elim (-1) fun i => (i : Int)) := by
  unfold slices_Index_int_int.f
  refine findLoop (fun k i => slices_Index_int_int.l0 k l n (l.length : Int) i) l.length 0 (fun i => l.getD i 0 == n) (fun i => (i : Int)) (-1) ?_ ?_ ?_ k (by omega)
  · intro k i _ hi hp
    have hp' : ¬ l.getD i 0 = n := by simpa using hp
    simp only [slices_Index_int_int.l0, rd_nat]
    rw [if_pos (by omega), if_pos (by omega), if_pos (by omega), if_neg (fun h => hp' h.symm), wrap_succ hi hl]
  · intro k i _ hi hp
    have hp' : l.getD i 0 = n := by simpa using hp
    simp only [slices_Index_int_int.l0, rd_nat]
    rw [if_pos (by omega), if_pos (by omega), if_pos (by omega), if_pos hp'.symm]
  · intro k _
    simp only [slices_Index_int_int.l0]
    rw [if_neg (by omega)]
theorem has2 (l : List Int) (n : Int) (hl : l.length ≤ 1099511627776) (k : Nat) (hk : l.length < k) : slices_Contains_int_int.f k l n = some (has l n) := by
  unfold slices_Contains_int_int.f has
  rw [index2 l n hl k hk, Option.bind_some]
  congr 1
  cases hf : (List.range l.length).find? fun i => l.getD i 0 == n with
  | none =>
    rw [List.find?_eq_none] at hf
    show decide ((-1 : Int) ≥ 0) = _
    rw [eq_comm, show decide ((-1 : Int) ≥ 0) = false from rfl, List.any_eq_false]
    exact hf
  | some i =>
    rw [List.find?_range_eq_some] at hf
    show decide ((i : Int) ≥ 0) = _
    rw [eq_comm, decide_eq_true (show (i : Int) ≥ 0 by omega), List.any_eq_true]
    exact ⟨i, hf.2.1, hf.1⟩
theorem has1 (l : List Int) (n : Int) (hl : l.length ≤ 1099511627776) (k : Nat) (hk : l.length < k) : spec_l13Has.f k l n = some (has l n) := by
  unfold spec_l13Has.f has
  rw [findLoop (fun k i => spec_l13Has.l0 k l n i) l.length 0 (fun i => l.getD i 0 == n) (fun _ => true) false ?_ ?_ ?_ k (by omega)]
  · congr 1
    cases hf : (List.range l.length).find? fun i => l.getD i 0 == n with
    | none =>
      rw [List.find?_eq_none] at hf
      rw [eq_comm, show Option.elim none false (fun _ : Nat => true) = false from rfl, List.any_eq_false]
      exact hf
    | some i =>
      rw [List.find?_range_eq_some] at hf
      rw [eq_comm, show Option.elim (some i) false (fun _ : Nat => true) = true from rfl, List.any_eq_true]
      exact ⟨i, hf.2.1, hf.1⟩
  · intro k i _ hi hp
    have hp' : ¬ l.getD i 0 = n := by simpa using hp
    simp only [spec_l13Has.l0, rd_nat]
    rw [if_pos (by omega), if_pos (by omega), if_neg hp', wrap_succ hi hl]
  · intro k i _ hi hp
    have hp' : l.getD i 0 = n := by simpa using hp
    simp only [spec_l13Has.l0, rd_nat]
    rw [if_pos (by omega), if_pos (by omega), if_pos hp']
  · intro k _
    simp only [spec_l13Has.l0]
    rw [if_neg (by omega)]
/-- There is a pair from a to the role b. -/
def edge (l : List S78) (a b : Int) : Prop := ∃ x ∈ l, x.f0 = a ∧ x.f1 = b ∧ 0 ≤ b ∧ b ≤ 5
def reach (l : List S78) : Int → Int → Prop := Relation.TransGen (edge l)
def falses : List Bool → Nat
  | [] => 0
  | true :: t => falses t
  | false :: t => falses t + 1
theorem falses_len (bs : List Bool) : falses bs ≤ bs.length := by
  induction bs with
  | nil => exact Nat.le_refl _
  | cons b t ih => cases b <;> simp only [falses, List.length_cons] <;> omega
theorem falses_zero (bs : List Bool) : falses bs = 0 → ∀ i, i < bs.length → bs.getD i false = true := by
  induction bs with
  | nil => intro _ i hi; simp at hi
  | cons b t ih =>
    intro h i hi
    cases b with
    | false => simp [falses] at h
    | true =>
      cases i with
      | zero => rfl
      | succ i => exact ih (by simpa [falses] using h) i (by simpa using hi)
theorem falses_set (bs : List Bool) : ∀ i, i < bs.length → bs.getD i false = false → falses (bs.set i true) + 1 = falses bs := by
  induction bs with
  | nil => intro i hi; simp at hi
  | cons b t ih =>
    intro i hi h
    cases i with
    | zero =>
      have hb : b = false := by simpa using h
      subst hb
      rfl
    | succ i =>
      have := ih i (by simpa using hi) (by simpa using h)
      cases b
      · show falses (t.set i true) + 1 + 1 = falses t + 1
        omega
      · show falses (t.set i true) + 1 = falses t
        omega
theorem getD_set_iff (bs : List Bool) (i j : Nat) (hi : i < bs.length) : (bs.set i true).getD j false = true ↔ bs.getD j false = true ∨ j = i := by
  simp only [List.getD_eq_getElem?_getD, List.getElem?_set]
  by_cases h : i = j
  · subst h
    simp [hi]
  · simp [h, Ne.symm h]
theorem set_same (bs : List Bool) (i : Nat) (h : bs.getD i false = true) : bs.set i true = bs := by
  refine List.ext_getElem? fun j => ?_
  rw [List.getElem?_set]
  by_cases q : i = j
  · subst q
    rw [List.getD_eq_getElem?_getD] at h
    by_cases hl : i < bs.length
    · rw [List.getElem?_eq_getElem hl] at h
      simp at h
      simp [hl, h]
    · simp [hl]
  · simp [q]
theorem below_fold (a : Int) (b : List S78) : ∀ s : List Bool × List Int, s.1.length = 6 →
    (b.foldl (impl_below.st a) s).1.length = 6 ∧ falses (b.foldl (impl_below.st a) s).1 + (b.foldl (impl_below.st a) s).2.length = falses s.1 + s.2.length ∧
    (∀ i : Nat, s.1.getD i false = true → (b.foldl (impl_below.st a) s).1.getD i false = true) ∧
    (∀ i : Nat, (b.foldl (impl_below.st a) s).1.getD i false = true → s.1.getD i false = true ∨ ((i : Int) ∈ (b.foldl (impl_below.st a) s).2 ∧ edge b a i)) ∧
    (∀ t ∈ s.2, t ∈ (b.foldl (impl_below.st a) s).2) ∧
    (∀ t ∈ (b.foldl (impl_below.st a) s).2, t ∈ s.2 ∨ edge b a t) ∧
    (∀ c, edge b a c → (b.foldl (impl_below.st a) s).1.getD c.toNat false = true) := by
  induction b with
  | nil =>
    intro s hs
    refine ⟨hs, rfl, fun _ h => h, fun _ h => .inl h, fun _ h => h, fun _ h => .inl h, fun c h => ?_⟩
    obtain ⟨x, hx, _⟩ := h
    cases hx
  | cons x b ih =>
    intro s hs
    have mono : ∀ c, edge b a c → edge (x :: b) a c := fun c h => by
      obtain ⟨y, hy, q⟩ := h
      exact ⟨y, List.mem_cons_of_mem _ hy, q⟩
    rw [List.foldl_cons]
    by_cases h : x.f0 = a ∧ (0 ≤ x.f1 ∧ x.f1 ≤ 5) ∧ s.1.getD x.f1.toNat false = false
    · have e : impl_below.st a s x = (s.1.set x.f1.toNat true, s.2 ++ [x.f1]) := by unfold impl_below.st; rw [if_pos h]
      rw [e]
      have hi : x.f1.toNat < s.1.length := by omega
      obtain ⟨g1, g2, g3, g4, g5, g6, g7⟩ := ih (s.1.set x.f1.toNat true, s.2 ++ [x.f1]) (by simpa using hs)
      generalize b.foldl (impl_below.st a) (s.1.set x.f1.toNat true, s.2 ++ [x.f1]) = r at g1 g2 g3 g4 g5 g6 g7 ⊢
      have hc := falses_set s.1 x.f1.toNat hi h.2.2
      have hx : edge (x :: b) a x.f1 := ⟨x, List.mem_cons_self, h.1, rfl, h.2.1.1, h.2.1.2⟩
      refine ⟨g1, ?_, fun i q => g3 i ((getD_set_iff _ _ _ hi).2 (.inl q)), fun i q => ?_, fun t q => g5 t (List.mem_append_left _ q), fun t q => ?_, fun c q => ?_⟩
      · rw [g2]
        simp only [List.length_append, List.length_singleton]
        omega
      · rcases g4 i q with q | q
        · rcases (getD_set_iff _ _ _ hi).1 q with q | q
          · exact .inl q
          · have hc1 : (i : Int) = x.f1 := by omega
            exact .inr ⟨by rw [hc1]; exact g5 _ (List.mem_append_right _ (List.mem_singleton.2 rfl)), by rw [hc1]; exact hx⟩
        · exact .inr ⟨q.1, mono _ q.2⟩
      · rcases g6 t q with q | q
        · rcases List.mem_append.1 q with q | q
          · exact .inl q
          · rw [List.mem_singleton.1 q]
            exact .inr hx
        · exact .inr (mono _ q)
      · obtain ⟨y, hy, e1, e2, e3, e4⟩ := q
        rcases List.mem_cons.1 hy with rfl | hy
        · subst e2
          exact g3 _ ((getD_set_iff _ _ _ hi).2 (.inr rfl))
        · exact g7 c ⟨y, hy, e1, e2, e3, e4⟩
    · have e : impl_below.st a s x = s := by unfold impl_below.st; rw [if_neg h]
      rw [e]
      obtain ⟨g1, g2, g3, g4, g5, g6, g7⟩ := ih s hs
      generalize b.foldl (impl_below.st a) s = r at g1 g2 g3 g4 g5 g6 g7 ⊢
      refine ⟨g1, g2, g3, fun i q => ?_, g5, fun t q => ?_, fun c q => ?_⟩
      · rcases g4 i q with q | q
        · exact .inl q
        · exact .inr ⟨q.1, mono _ q.2⟩
      · rcases g6 t q with q | q
        · exact .inl q
        · exact .inr (mono _ q)
      · obtain ⟨y, hy, e1, e2, e3, e4⟩ := q
        rcases List.mem_cons.1 hy with rfl | hy
        · subst e2
          have : s.1.getD y.f1.toNat false = true := by
            cases hb : s.1.getD y.f1.toNat false with
            | true => rfl
            | false => exact absurd ⟨e1, ⟨e3, e4⟩, hb⟩ h
          exact g3 _ this
        · exact g7 c ⟨y, hy, e1, e2, e3, e4⟩
theorem below_go (l : List S78) (hl : l.length ≤ 1048576) (role : Int) : ∀ (k : Nat) (bs : List Bool) (todo : List Int), bs.length = 6 → falses bs + todo.length < k → falses bs + todo.length ≤ 7 →
    (∀ i : Nat, bs.getD i false = true → reach l role i) → (∀ t ∈ todo, t = role ∨ reach l role t) →
    (∀ a : Int, (a = role ∨ (0 ≤ a ∧ bs.getD a.toNat false = true)) → a ∉ todo → ∀ c, edge l a c → bs.getD c.toNat false = true) →
    ∃ bs', impl_below.go l k bs todo = some bs' ∧ bs'.length = 6 ∧ ∀ i : Nat, bs'.getD i false = true ↔ reach l role i := by
  intro k
  induction k with
  | zero => intro bs todo _ h; omega
  | succ k ih =>
    intro bs todo hb hk h7 h1 h2 h3
    cases todo with
    | nil =>
      refine ⟨bs, rfl, hb, fun i => ⟨h1 i, fun q => ?_⟩⟩
      have key : ∀ c : Int, reach l role c → bs.getD c.toNat false = true ∧ 0 ≤ c := by
        intro c q
        induction q with
        | single e => exact ⟨h3 role (.inl rfl) (List.not_mem_nil) _ e, by obtain ⟨_, _, _, _, g, _⟩ := e; exact g⟩
        | tail _ e ihq => exact ⟨h3 _ (.inr ⟨ihq.2, ihq.1⟩) (List.not_mem_nil) _ e, by obtain ⟨_, _, _, _, g, _⟩ := e; exact g⟩
      exact (key i q).1
    | cons a t =>
      simp only [List.length_cons] at hk h7
      simp only [impl_below.go]
      rw [if_pos (by omega)]
      obtain ⟨g1, g2, g3, g4, g5, g6, g7⟩ := below_fold a l (bs, t) hb
      generalize l.foldl (impl_below.st a) (bs, t) = r at g1 g2 g3 g4 g5 g6 g7 ⊢
      have ha : a = role ∨ reach l role a := h2 a (List.mem_cons_self)
      have hstep : ∀ c, edge l a c → reach l role c := by
        intro c e
        rcases ha with rfl | q
        · exact Relation.TransGen.single e
        · exact Relation.TransGen.tail q e
      refine ih r.1 r.2 g1 (by simp only at g2; omega) (by simp only at g2; omega) (fun i q => ?_) (fun c q => ?_) (fun c q hn d e => ?_)
      · rcases g4 i q with q | q
        · exact h1 i q
        · exact hstep _ q.2
      · rcases g6 c q with q | q
        · exact h2 c (List.mem_cons_of_mem _ q)
        · exact .inr (hstep _ q)
      · by_cases hca : c = a
        · subst hca
          exact g7 d e
        · have hnt : c ∉ a :: t := by
            intro q2
            rcases List.mem_cons.1 q2 with q2 | q2
            · exact hca q2
            · exact hn (g5 c q2)
          refine g3 _ (h3 c ?_ hnt d e)
          rcases q with q | ⟨q0, q⟩
          · exact .inl q
          · rcases g4 _ q with q | q
            · exact .inr ⟨q0, q⟩
            · refine absurd ?_ hn
              have := q.1
              rwa [Int.toNat_of_nonneg q0] at this
theorem below2 (l : List S78) (hl : l.length ≤ 1048576) (role : Int) (k : Nat) (hk : 7 < k) : ∃ bs, impl_below.f k l role = some bs ∧ bs.length = 6 ∧ ∀ i : Nat, bs.getD i false = true ↔ reach l role i := by
  unfold impl_below.f
  have hz : ∀ i : Nat, (List.replicate 6 false).getD i false = false := by
    intro i
    rw [List.getD_eq_getElem?_getD, List.getElem?_replicate]
    split <;> rfl
  refine below_go l hl role k (List.replicate 6 false) [role] rfl (by simp only [List.length_singleton]; show 6 + 1 < k; omega) (Nat.le_refl 7) (fun i q => ?_) (fun t q => .inl (List.mem_singleton.1 q)) (fun a q hn => ?_)
  · rw [hz] at q
    cases q
  · rcases q with q | ⟨_, q⟩
    · exact absurd (List.mem_singleton.2 q) hn
    · rw [hz] at q
      cases q
/-- One pass over the pairs. -/
def mk1 (ms : List Bool) (x : S78) : List Bool := if (0 ≤ x.f0 ∧ x.f0 ≤ 5) ∧ (0 ≤ x.f1 ∧ x.f1 ≤ 5) ∧ ms.getD x.f0.toNat false = true then ms.set x.f1.toNat true else ms
def passes (l : List S78) : Nat → List Bool → List Bool
  | 0, ms => ms
  | n + 1, ms => passes l n (l.foldl mk1 ms)
theorem mk1_len (ms : List Bool) (x : S78) : (mk1 ms x).length = ms.length := by
  unfold mk1
  split
  · simp
  · rfl
theorem pass_fold (b : List S78) : ∀ ms : List Bool, ms.length = 6 → (b.foldl mk1 ms).length = 6 ∧ (∀ i : Nat, ms.getD i false = true → (b.foldl mk1 ms).getD i false = true) ∧
    falses (b.foldl mk1 ms) ≤ falses ms ∧ (falses (b.foldl mk1 ms) = falses ms → b.foldl mk1 ms = ms ∧ ∀ x ∈ b, (0 ≤ x.f0 ∧ x.f0 ≤ 5) → (0 ≤ x.f1 ∧ x.f1 ≤ 5) → ms.getD x.f0.toNat false = true → ms.getD x.f1.toNat false = true) := by
  induction b with
  | nil => intro ms h; exact ⟨h, fun _ h => h, Nat.le_refl _, fun _ => ⟨rfl, fun x hx => by cases hx⟩⟩
  | cons x b ih =>
    intro ms hm
    rw [List.foldl_cons]
    obtain ⟨g1, g2, g3, g4⟩ := ih (mk1 ms x) (by rw [mk1_len]; exact hm)
    by_cases h : (0 ≤ x.f0 ∧ x.f0 ≤ 5) ∧ (0 ≤ x.f1 ∧ x.f1 ≤ 5) ∧ ms.getD x.f0.toNat false = true
    · have e : mk1 ms x = ms.set x.f1.toNat true := by unfold mk1; rw [if_pos h]
      have hi : x.f1.toNat < ms.length := by omega
      cases hb : ms.getD x.f1.toNat false with
      | true =>
        rw [set_same ms _ hb] at e
        rw [e] at g1 g2 g3 g4 ⊢
        refine ⟨g1, g2, g3, fun q => ⟨(g4 q).1, fun y hy => ?_⟩⟩
        rcases List.mem_cons.1 hy with rfl | hy
        · exact fun _ _ _ => hb
        · exact (g4 q).2 y hy
      | false =>
        have hf := falses_set ms _ hi hb
        rw [e] at g1 g2 g3 g4 ⊢
        exact ⟨g1, fun i q => g2 i ((getD_set_iff _ _ _ hi).2 (.inl q)), by omega, fun q => by omega⟩
    · have e : mk1 ms x = ms := by unfold mk1; rw [if_neg h]
      rw [e] at g1 g2 g3 g4 ⊢
      refine ⟨g1, g2, g3, fun q => ⟨(g4 q).1, fun y hy => ?_⟩⟩
      rcases List.mem_cons.1 hy with rfl | hy
      · exact fun a1 a2 a3 => absurd ⟨a1, a2, a3⟩ h
      · exact (g4 q).2 y hy
theorem pass_sound (l : List S78) (role : Int) (b : List S78) : ∀ ms : List Bool, ms.length = 6 → (∀ x ∈ b, x ∈ l) → (∀ i : Nat, ms.getD i false = true → (i : Int) = role ∨ reach l role i) → ∀ i : Nat, (b.foldl mk1 ms).getD i false = true → (i : Int) = role ∨ reach l role i := by
  induction b with
  | nil => intro ms _ _ h; exact h
  | cons x b ih =>
    intro ms hm hs h
    rw [List.foldl_cons]
    refine ih (mk1 ms x) (by rw [mk1_len]; exact hm) (fun y hy => hs y (List.mem_cons_of_mem _ hy)) fun i q => ?_
    unfold mk1 at q
    split at q
    · rename_i hx
      rcases (getD_set_iff _ _ _ (by omega)).1 q with q | q
      · exact h i q
      · have h0 := h _ hx.2.2
        rw [Int.toNat_of_nonneg hx.1.1] at h0
        have e : edge l x.f0 i := ⟨x, hs x List.mem_cons_self, rfl, by omega, by omega, by omega⟩
        rcases h0 with h0 | h0
        · rw [h0] at e
          exact .inr (Relation.TransGen.single e)
        · exact .inr (Relation.TransGen.tail h0 e)
    · exact h i q
theorem passes_len (l : List S78) (n : Nat) : ∀ ms : List Bool, ms.length = 6 → (passes l n ms).length = 6 := by
  induction n with
  | zero => intro ms h; exact h
  | succ n ih => intro ms h; exact ih _ (pass_fold l ms h).1
theorem passes_mono (l : List S78) (n : Nat) : ∀ ms : List Bool, ms.length = 6 → ∀ i : Nat, ms.getD i false = true → (passes l n ms).getD i false = true := by
  induction n with
  | zero => intro ms _ i h; exact h
  | succ n ih => intro ms h i hi; exact ih _ (pass_fold l ms h).1 i ((pass_fold l ms h).2.1 i hi)
theorem passes_sound (l : List S78) (role : Int) (n : Nat) : ∀ ms : List Bool, ms.length = 6 → (∀ i : Nat, ms.getD i false = true → (i : Int) = role ∨ reach l role i) → ∀ i : Nat, (passes l n ms).getD i false = true → (i : Int) = role ∨ reach l role i := by
  induction n with
  | zero => intro ms _ h; exact h
  | succ n ih => intro ms h hs; exact ih _ (pass_fold l ms h).1 (pass_sound l role l ms h (fun _ hx => hx) hs)
theorem passes_fix (l : List S78) (ms : List Bool) (h : l.foldl mk1 ms = ms) (n : Nat) : passes l n ms = ms := by
  induction n with
  | zero => rfl
  | succ n ih => rw [passes, h, ih]
theorem passes_closed (l : List S78) (n : Nat) : ∀ ms : List Bool, ms.length = 6 → falses ms ≤ n → ∀ x ∈ l, (0 ≤ x.f0 ∧ x.f0 ≤ 5) → (0 ≤ x.f1 ∧ x.f1 ≤ 5) → (passes l n ms).getD x.f0.toNat false = true → (passes l n ms).getD x.f1.toNat false = true := by
  induction n with
  | zero =>
    intro ms h hf x _ _ h1 _
    exact falses_zero ms (by omega) _ (by omega)
  | succ n ih =>
    intro ms h hf
    obtain ⟨g1, g2, g3, g4⟩ := pass_fold l ms h
    by_cases q : falses (l.foldl mk1 ms) = falses ms
    · obtain ⟨e, hc⟩ := g4 q
      rw [passes, e, passes_fix l ms e]
      exact hc
    · exact ih _ g1 (by omega)
def start (role : Int) : List Bool := (List.replicate 6 false).set role.toNat true
/-- The roles under a role, in their order. -/
def under (l : List S78) (role : Int) : List Int := if 0 ≤ role ∧ role ≤ 5 then ((List.range 6).filter fun i => (passes l 6 (start role)).getD i false).map fun (i : Nat) => (i : Int) else []
theorem marks_iff (l : List S78) (role : Int) (hr : 0 ≤ role ∧ role ≤ 5) (i : Nat) : (passes l 6 (start role)).getD i false = true ↔ (i : Int) = role ∨ reach l role i := by
  have hs : (start role).length = 6 := by simp [start]
  have hlt : role.toNat < (List.replicate 6 false).length := by simp; omega
  have hz : ∀ i : Nat, (List.replicate 6 false).getD i false = false := by
    intro i
    rw [List.getD_eq_getElem?_getD, List.getElem?_replicate]
    split <;> rfl
  have hb : ∀ i : Nat, (start role).getD i false = true ↔ (i : Int) = role := by
    intro i
    unfold start
    rw [getD_set_iff _ _ _ hlt, hz]
    constructor
    · rintro (h | h)
      · cases h
      · omega
    · intro h
      exact .inr (by omega)
  constructor
  · exact passes_sound l role 6 _ hs (fun i h => .inl ((hb i).1 h)) i
  · have hc := passes_closed l 6 (start role) hs (by have := falses_len (start role); omega)
    have h0 : (passes l 6 (start role)).getD role.toNat false = true := passes_mono l 6 _ hs _ ((hb _).2 (by omega))
    have hlen := passes_len l 6 _ hs
    generalize passes l 6 (start role) = ms at hc h0 hlen
    have key : ∀ c : Int, reach l role c → ms.getD c.toNat false = true ∧ 0 ≤ c ∧ c ≤ 5 := by
      intro c q
      induction q with
      | single e =>
        obtain ⟨x, hx, rfl, rfl, g, g'⟩ := e
        exact ⟨hc x hx hr ⟨g, g'⟩ h0, g, g'⟩
      | tail _ e ihq =>
        obtain ⟨x, hx, rfl, rfl, g, g'⟩ := e
        exact ⟨hc x hx ihq.2 ⟨g, g'⟩ ihq.1, g, g'⟩
    rintro (h | h)
    · rw [show i = role.toNat by omega]
      exact h0
    · exact (key _ h).1
theorem under_len (l : List S78) (role : Int) : (under l role).length ≤ 6 := by
  unfold under
  split
  · rw [List.length_map]
    exact Nat.le_trans (List.length_filter_le _ _) (by simp)
  · simp
theorem under_mem (l : List S78) (role : Int) (c : Int) : c ∈ under l role ↔ (0 ≤ role ∧ role ≤ 5) ∧ (0 ≤ c ∧ c ≤ 5) ∧ (c = role ∨ reach l role c) := by
  unfold under
  split
  · rename_i h
    simp only [List.mem_map, List.mem_filter, List.mem_range]
    constructor
    · rintro ⟨i, ⟨h6, hi⟩, rfl⟩
      exact ⟨h, by omega, (marks_iff l role h i).1 hi⟩
    · rintro ⟨_, hc, q⟩
      refine ⟨c.toNat, ⟨by omega, (marks_iff l role h _).2 ?_⟩, by omega⟩
      rwa [Int.toNat_of_nonneg hc.1]
  · rename_i h
    constructor
    · intro q
      cases q
    · intro q
      exact absurd q.1 h
def marked (p : Nat → Bool) (n : Nat) : List Int := ((List.range n).filter p).map fun (i : Nat) => (i : Int)
theorem marked_len (p : Nat → Bool) (n : Nat) : (marked p n).length ≤ n := by
  unfold marked
  rw [List.length_map]
  exact Nat.le_trans (List.length_filter_le _ _) (by simp)
theorem marked_succ (p : Nat → Bool) (n : Nat) : marked p (n + 1) = if p n = true then marked p n ++ [(n : Int)] else marked p n := by
  unfold marked
  rw [List.range_succ, List.filter_append, List.map_append]
  by_cases h : p n = true
  · rw [if_pos h]
    simp [h]
  · rw [if_neg h]
    simp [h]
theorem marked_congr (p q : Nat → Bool) (n : Nat) (h : ∀ i, i < n → p i = q i) : marked p n = marked q n := by
  unfold marked
  rw [List.filter_congr fun i hi => h i (List.mem_range.1 hi)]
theorem ruInner (l : List S78) (hl : l.length ≤ 1048576) (x5 : List Int) (v : Int) : ∀ (b a : List S78) (ms : List Bool) (k : Nat), l = a ++ b → ms.length = 6 → spec_RolesUnder.l1 (k + b.length + 1) l x5 ms v (a.length : Int) = spec_RolesUnder.l0 k l x5 (b.foldl mk1 ms) (wrap64 (v + 1)) := by
  intro b
  induction b with
  | nil =>
    intro a ms k he _
    have hla : l.length = a.length := by rw [he]; simp
    simp only [spec_RolesUnder.l1]
    rw [if_neg (by omega)]
    rfl
  | cons x r ih =>
    intro a ms k he hm
    have hla : l.length = a.length + (r.length + 1) := by rw [he]; simp
    have hx' : rd_T78 l (a.length : Int) = x := by
      rw [rdT78, he, getD_get _ _ _ (by simp), List.getElem_append_right (Nat.le_refl _)]
      simp
    have hw : wrap64 ((a.length : Int) + 1) = (((a ++ [x]).length : Nat) : Int) := by rw [List.length_append]; unfold wrap64; simp; omega
    have he' : l = (a ++ [x]) ++ r := by rw [he]; simp
    have hn := ih (a ++ [x]) (mk1 ms x) k he' (by rw [mk1_len]; exact hm)
    rw [List.foldl_cons, List.length_cons, show k + (r.length + 1) + 1 = (k + r.length + 1) + 1 by omega, ← hn]
    generalize hq : k + r.length + 1 = q
    simp only [spec_RolesUnder.l1, hx', in1, Option.bind_some, hw]
    rw [if_pos (by omega), if_pos (by omega)]
    by_cases h0 : 0 ≤ x.f0 ∧ x.f0 ≤ 5
    · rw [decide_eq_true h0, if_pos rfl]
      by_cases h1 : 0 ≤ x.f1 ∧ x.f1 ≤ 5
      · rw [decide_eq_true h1, if_pos rfl, if_pos h0.1, if_pos (by omega)]
        by_cases h2 : ms.getD x.f0.toNat false = true
        · have e : mk1 ms x = ms.set x.f1.toNat true := by unfold mk1; rw [if_pos ⟨h0, h1, h2⟩]
          rw [if_pos (by exact h2), if_pos h1.1, if_pos (by omega), e]
        · have e : mk1 ms x = ms := by unfold mk1; rw [if_neg (fun h => h2 h.2.2)]
          rw [if_neg (by exact h2), e]
      · have e : mk1 ms x = ms := by unfold mk1; rw [if_neg (fun h => h1 h.2.1)]
        rw [decide_eq_false h1, if_neg (by simp), e]
    · have e : mk1 ms x = ms := by unfold mk1; rw [if_neg (fun h => h0 h.1)]
      rw [decide_eq_false h0, if_neg (by simp), e]
theorem ruOuter (l : List S78) (hl : l.length ≤ 1048576) (x5 : List Int) (m : Nat) : ∀ (v : Int) (ms : List Bool) (k : Nat), v + (m : Int) = 6 → 0 ≤ v → ms.length = 6 → spec_RolesUnder.l0 (k + m * (l.length + 2) + 1) l x5 ms v = spec_RolesUnder.l2 k x5 (passes l m ms) 0 := by
  induction m with
  | zero =>
    intro v ms k hv _ _
    rw [Nat.zero_mul, Nat.add_zero]
    simp only [spec_RolesUnder.l0]
    rw [if_neg (by omega)]
    rfl
  | succ m ih =>
    intro v ms k hv h0 hm
    rw [Nat.succ_mul, show k + (m * (l.length + 2) + (l.length + 2)) + 1 = ((k + m * (l.length + 2) + 1) + l.length + 1) + 1 by omega]
    simp only [spec_RolesUnder.l0]
    rw [if_pos (by omega)]
    have := ruInner l hl x5 v l [] ms (k + m * (l.length + 2) + 1) (by simp) hm
    rw [show (([] : List S78).length : Int) = 0 from rfl] at this
    rw [this, wrap_in (by omega) (by omega), ih (v + 1) _ k (by omega) (by omega) (pass_fold l ms hm).1]
    rfl
theorem ruOut (ms : List Bool) (hm : ms.length = 6) (k : Nat) (hk : 7 < k) : spec_RolesUnder.l2 k [] ms 0 = some (marked (fun i => ms.getD i false) 6) := by
  refine run (fun k s i => spec_RolesUnder.l2 k s ms i) (fun i => marked (fun i => ms.getD i false) i) 6 0 _ ?_ ?_ k (by omega)
  · intro k i _ hi
    have hlen := marked_len (fun i => ms.getD i false) i
    have hr : rdOf false ms (i : Int) = ms.getD i false := by unfold rdOf; rw [Int.toNat_natCast]
    simp only [spec_RolesUnder.l2, hr]
    rw [if_pos (by omega), if_pos (by omega), if_pos (by omega), marked_succ, wrap_in (by omega) (by omega)]
    by_cases h : ms.getD i false = true
    · rw [if_pos h, if_pos h, if_pos (by omega)]
      rfl
    · rw [if_neg h, if_neg h]
      rfl
  · intro k _
    simp only [spec_RolesUnder.l2]
    rw [if_neg (by omega)]
theorem under1 (l : List S78) (hl : l.length ≤ 1048576) (a : Int) (k : Nat) (hk : 7000000 < k) : spec_RolesUnder.f k l a = some (under l a) := by
  unfold spec_RolesUnder.f under
  simp only [in1, Option.bind_some]
  by_cases h : 0 ≤ a ∧ a ≤ 5
  · rw [decide_eq_true h, if_pos rfl, if_pos h, if_pos (by omega), if_pos h.1, if_pos (by simp; omega)]
    have hs : (start a).length = 6 := by simp [start]
    have := ruOuter l hl [] 6 0 (start a) (k - 6 * (l.length + 2) - 1) (by omega) (by omega) hs
    rw [show k - 6 * (l.length + 2) - 1 + 6 * (l.length + 2) + 1 = k by omega] at this
    refine Eq.trans this ?_
    rw [ruOut _ (passes_len l 6 _ hs) _ (by omega)]
    rfl
  · rw [decide_eq_false h, if_neg h, if_neg (by simp)]
theorem under_g (bs : List Bool) (a : Int) (d : Nat) : ∀ i : Nat, i + d = 6 → impl_RolesUnder.g bs a d (i : Int) (marked (fun j => bs.getD j false || decide ((j : Int) = a)) i) = marked (fun j => bs.getD j false || decide ((j : Int) = a)) 6 := by
  induction d with
  | zero =>
    intro i hi
    obtain rfl : i = 6 := by omega
    rfl
  | succ d ih =>
    intro i hi
    rw [impl_RolesUnder.g, Int.toNat_natCast]
    have := ih (i + 1) (by omega)
    rw [marked_succ] at this
    refine Eq.trans ?_ this
    by_cases h : bs.getD i false = true ∨ (i : Int) = a
    · rw [if_pos h, if_pos (by simpa using h)]
      rfl
    · rw [if_neg h, if_neg (by simpa using h)]
      rfl
theorem under2 (l : List S78) (hl : l.length ≤ 1048576) (a : Int) (k : Nat) (hk : 7 < k) : impl_RolesUnder.f k l a = some (under l a) := by
  unfold impl_RolesUnder.f
  by_cases h : 0 ≤ a ∧ a ≤ 5
  · obtain ⟨bs, hb, hl6, hi⟩ := below2 l hl a k hk
    have hg := under_g bs a 6 0 (by omega)
    rw [if_pos h, hb, Option.bind_some, if_pos hl6]
    refine congrArg some (Eq.trans hg ?_)
    unfold under
    rw [if_pos h]
    refine marked_congr _ _ 6 fun i _ => ?_
    have h1 := hi i
    have h2 := marks_iff l a h i
    rw [Bool.eq_iff_iff]
    simp only [Bool.or_eq_true, decide_eq_true_eq]
    rw [h1, h2, Or.comm]
  · rw [if_neg h]
    unfold under
    rw [if_neg h]
/-- Two lists in strictly ascending order with the same members are one list. -/
theorem strict_ext : ∀ (a b : List Int), a.Pairwise (· < ·) → b.Pairwise (· < ·) → (∀ x, x ∈ a ↔ x ∈ b) → a = b := by
  intro a
  induction a with
  | nil =>
    intro b _ _ h
    cases b with
    | nil => rfl
    | cons y b => exact absurd ((h y).2 (List.mem_cons_self)) (by simp)
  | cons x a ih =>
    intro b ha hb h
    cases b with
    | nil => exact absurd ((h x).1 (List.mem_cons_self)) (by simp)
    | cons y b =>
      rw [List.pairwise_cons] at ha hb
      have hxy : x = y := by
        rcases List.mem_cons.1 ((h x).1 (List.mem_cons_self)) with e | e
        · exact e
        · rcases List.mem_cons.1 ((h y).2 (List.mem_cons_self)) with e2 | e2
          · exact e2.symm
          · have g1 := hb.1 x e
            have g2 := ha.1 y e2
            omega
      subst hxy
      congr 1
      refine ih b ha.2 hb.2 fun z => ⟨fun hz => ?_, fun hz => ?_⟩
      · rcases List.mem_cons.1 ((h z).1 (List.mem_cons_of_mem _ hz)) with e | e
        · have := ha.1 z hz
          omega
        · exact e
      · rcases List.mem_cons.1 ((h z).2 (List.mem_cons_of_mem _ hz)) with e | e
        · have := hb.1 z hz
          omega
        · exact e
theorem upTo_mem (d : Array Int) (m : Nat) (x : Int) : x ∈ Go.Lib.compactUpTo d m ↔ ∃ j, j < m ∧ d[j]! = x := by
  induction m with
  | zero => simp [Go.Lib.compactUpTo]
  | succ m ih =>
    rw [Go.Lib.compactUpTo_succ, List.mem_append, ih]
    constructor
    · rintro (⟨j, hj, e⟩ | h)
      · exact ⟨j, by omega, e⟩
      · split at h
        · exact ⟨m, by omega, (List.mem_singleton.1 h).symm⟩
        · cases h
    · rintro ⟨j, hj, e⟩
      rcases Nat.lt_or_ge j m with h | h
      · exact .inl ⟨j, h, e⟩
      · obtain rfl : j = m := by omega
        by_cases hk : Go.Lib.keeps d j = true
        · rw [if_pos hk]
          exact .inr (by simp [e])
        · unfold Go.Lib.keeps at hk
          simp only [decide_eq_true_eq, not_or, Decidable.not_not] at hk
          exact .inl ⟨j - 1, by omega, by rw [← hk.2]; exact e⟩
theorem upTo_strict (d : Array Int) (m : Nat) (h : ∀ i j, i ≤ j → j < m → d[i]! ≤ d[j]!) : (Go.Lib.compactUpTo d m).Pairwise (· < ·) := by
  induction m with
  | zero => simp [Go.Lib.compactUpTo]
  | succ m ih =>
    rw [Go.Lib.compactUpTo_succ]
    split
    · rename_i hk
      rw [List.pairwise_append]
      refine ⟨ih (fun i j h1 h2 => h i j h1 (by omega)), List.pairwise_singleton _ _, fun x hx y hy => ?_⟩
      rw [List.mem_singleton] at hy
      subst hy
      obtain ⟨j, hj, rfl⟩ := (upTo_mem d m x).1 hx
      unfold Go.Lib.keeps at hk
      simp only [decide_eq_true_eq] at hk
      have g1 := h j (m - 1) (by omega) (by omega)
      have g2 := h (m - 1) m (by omega) (by omega)
      rcases hk with hk | hk
      · omega
      · omega
    · rw [List.append_nil]
      exact ih (fun i j h1 h2 => h i j h1 (by omega))
theorem compact_sorted (l : List Int) : (Go.Lib.compact (l.mergeSort fun x y => decide (x ≤ y))).Pairwise (· < ·) ∧ ∀ x, x ∈ Go.Lib.compact (l.mergeSort fun x y => decide (x ≤ y)) ↔ x ∈ l := by
  have hs : (l.mergeSort fun x y => decide (x ≤ y)).Pairwise fun x y => decide (x ≤ y) = true := List.pairwise_mergeSort (fun a b c h1 h2 => by simp only [decide_eq_true_eq] at *; omega) (fun a b => by simp only [Bool.or_eq_true, decide_eq_true_eq]; omega) l
  have hm : ∀ x, x ∈ (l.mergeSort fun x y => decide (x ≤ y)) ↔ x ∈ l := fun x => List.mem_mergeSort
  generalize (l.mergeSort fun x y => decide (x ≤ y)) = s at hs hm
  unfold Go.Lib.compact
  have hg : ∀ i, i < s.length → s.toArray[i]! = s.getD i 0 := fun i hi => by
    rw [getElem!_pos s.toArray i (by simpa using hi), getD_get s i 0 hi]
    rfl
  constructor
  · refine upTo_strict _ _ fun i j h1 h2 => ?_
    rw [hg i (by omega), hg j h2, getD_get s i 0 (by omega), getD_get s j 0 h2]
    rcases Nat.lt_or_ge i j with h3 | h3
    · have := List.pairwise_iff_getElem.1 hs i j (by omega) h2 h3
      simpa using this
    · obtain rfl : i = j := by omega
      exact Int.le_refl _
  · intro x
    rw [upTo_mem, ← hm x]
    constructor
    · rintro ⟨j, hj, rfl⟩
      rw [hg j hj]
      exact getD_mem s j 0 hj
    · intro hx
      obtain ⟨j, hj, e⟩ := List.getElem_of_mem hx
      exact ⟨j, hj, by rw [hg j hj, getD_get s j 0 hj]; exact e⟩
def roleIs (p now age : Int) (x : S75) : Bool := decide (x.f0 = 1) && (decide (x.f1 = p) && holds x.f0 x.f1 x.f2 x.f3 x.f4 x.f5 now age)
def rolesRaw (l : List S78) (s : List S75) (p now age : Int) : List Int := ((s.filter (roleIs p now age)).map fun x => under l x.f2).flatten
def rolesOf (l : List S78) (s : List S75) (p now age : Int) : List Int := marked (fun r => decide ((r : Int) ∈ rolesRaw l s p now age)) 6
theorem rolesOf_len (l : List S78) (s : List S75) (p now age : Int) : (rolesOf l s p now age).length ≤ 6 := marked_len _ _
theorem rolesRaw_step (l : List S78) (s : List S75) (p now age : Int) (i : Nat) (hi : i < s.length) : rolesRaw l (s.take (i + 1)) p now age = if roleIs p now age (s.getD i z75) = true then rolesRaw l (s.take i) p now age ++ under l (s.getD i z75).f2 else rolesRaw l (s.take i) p now age := by
  unfold rolesRaw
  rw [List.take_succ_eq_append_getElem hi, List.filter_append, List.map_append, List.flatten_append, getD_get s i _ hi]
  by_cases h : roleIs p now age s[i] = true
  · rw [if_pos h]
    simp [h]
  · rw [if_neg h]
    simp [h]
theorem rolesRaw_len (l : List S78) (s : List S75) (p now age : Int) : (rolesRaw l s p now age).length ≤ 6 * s.length := by
  unfold rolesRaw
  induction s with
  | nil => simp
  | cons x t ih =>
    rw [List.filter_cons]
    have := under_len l x.f2
    split
    · rw [List.map_cons, List.flatten_cons, List.length_append, List.length_cons]
      omega
    · rw [List.length_cons]
      omega
theorem rolesRaw_in (l : List S78) (s : List S75) (p now age : Int) (c : Int) (h : c ∈ rolesRaw l s p now age) : 0 ≤ c ∧ c ≤ 5 := by
  unfold rolesRaw at h
  obtain ⟨u, hu, hc⟩ := List.mem_flatten.1 h
  obtain ⟨x, _, rfl⟩ := List.mem_map.1 hu
  exact ((under_mem l x.f2 c).1 hc).2.1
theorem marked_mem (p : Nat → Bool) (n : Nat) (c : Int) : c ∈ marked p n ↔ ∃ i : Nat, i < n ∧ p i = true ∧ (i : Int) = c := by
  unfold marked
  simp only [List.mem_map, List.mem_filter, List.mem_range]
  constructor
  · rintro ⟨i, ⟨h1, h2⟩, h3⟩
    exact ⟨i, h1, h2, h3⟩
  · rintro ⟨i, h1, h2, h3⟩
    exact ⟨i, ⟨h1, h2⟩, h3⟩
theorem marked_strict (p : Nat → Bool) (n : Nat) : (marked p n).Pairwise (· < ·) := by
  unfold marked
  rw [List.pairwise_map]
  refine List.Pairwise.filter _ (List.pairwise_lt_range.imp fun h => ?_)
  omega
theorem rolesOf_mem (l : List S78) (s : List S75) (p now age : Int) (c : Int) : c ∈ rolesOf l s p now age ↔ c ∈ rolesRaw l s p now age := by
  unfold rolesOf
  rw [marked_mem]
  constructor
  · rintro ⟨i, _, h, rfl⟩
    exact of_decide_eq_true h
  · intro h
    have := rolesRaw_in l s p now age c h
    refine ⟨c.toNat, by omega, decide_eq_true ?_, Int.toNat_of_nonneg this.1⟩
    rwa [Int.toNat_of_nonneg this.1]
theorem rolesOf_eq (l : List S78) (s : List S75) (p now age : Int) : Go.Lib.compact ((rolesRaw l s p now age).mergeSort fun x y => decide (x ≤ y)) = rolesOf l s p now age := by
  obtain ⟨h1, h2⟩ := compact_sorted (rolesRaw l s p now age)
  refine strict_ext _ _ h1 (marked_strict _ _) fun x => ?_
  rw [h2 x]
  exact (rolesOf_mem l s p now age x).symm
theorem rolesOf2 (l : List S78) (s : List S75) (p now age : Int) (hl : l.length ≤ 1048576) (hs : s.length ≤ 1048576) (k : Nat) (hk : 1048600 < k) : impl_RolesOf.f k l s p now age = some (rolesOf l s p now age) := by
  unfold impl_RolesOf.f
  refine run (fun k st i => impl_RolesOf.l0 k l p now age st s (s.length : Int) i) (fun i => rolesRaw l (s.take i) p now age) s.length 10 _ ?_ ?_ k (by omega)
  · intro k i hB hi
    have hlen := rolesRaw_len l (s.take i) p now age
    have hti : (s.take i).length ≤ i := by rw [List.length_take]; omega
    have hu := under_len l (s.getD i z75).f2
    simp only [impl_RolesOf.l0, rdT75, holds2, Option.bind_some]
    rw [if_pos (by omega), if_pos (by omega), if_pos (by omega), wrap_succ hi (by omega), rolesRaw_step l s p now age i hi]
    generalize s.getD i z75 = x at hu ⊢
    unfold roleIs
    by_cases h0 : x.f0 = 1
    · by_cases h1 : x.f1 = p
      · rw [if_pos h0, if_pos h1, decide_eq_true h0, decide_eq_true h1]
        simp only [Bool.true_and]
        by_cases h3 : holds x.f0 x.f1 x.f2 x.f3 x.f4 x.f5 now age = true
        · rw [if_pos h3, if_pos h3, under2 l hl _ k (by omega), Option.bind_some, if_pos (by omega)]
        · rw [if_neg h3, if_neg h3]
      · rw [if_pos h0, if_neg h1, decide_eq_false h1]
        simp
    · rw [if_neg h0, decide_eq_false h0]
      simp
  · intro k _
    simp only [impl_RolesOf.l0]
    have hlen := rolesRaw_len l (s.take s.length) p now age
    have hti : (s.take s.length).length ≤ s.length := by simp
    rw [if_neg (by omega), slices_Sort_int_int.f, if_pos (by omega), Option.bind_some, slices_Compact_int_int.f, Option.bind_some, List.take_length]
    exact congrArg some (rolesOf_eq l s p now age)
def setT (m : List Bool) (r : Int) : List Bool := m.set r.toNat true
theorem setT_fold (u : List Int) : ∀ ms : List Bool, ms.length = 6 → (∀ c ∈ u, 0 ≤ c ∧ c ≤ 5) → (u.foldl setT ms).length = 6 ∧ ∀ i : Nat, (u.foldl setT ms).getD i false = true ↔ ms.getD i false = true ∨ (i : Int) ∈ u := by
  induction u with
  | nil => intro ms h _; exact ⟨h, fun i => by simp⟩
  | cons c u ih =>
    intro ms h hu
    have hc := hu c List.mem_cons_self
    obtain ⟨g1, g2⟩ := ih (setT ms c) (by unfold setT; simpa using h) (fun d hd => hu d (List.mem_cons_of_mem _ hd))
    rw [List.foldl_cons]
    refine ⟨g1, fun i => ?_⟩
    rw [g2 i]
    unfold setT
    rw [getD_set_iff ms c.toNat i (by omega), List.mem_cons]
    constructor
    · rintro ((q | q) | q)
      · exact .inl q
      · exact .inr (.inl (by omega))
      · exact .inr (.inr q)
    · rintro (q | q | q)
      · exact .inl (.inl q)
      · exact .inl (.inr (by omega))
      · exact .inr q
def roleMarks (l : List S78) (s : List S75) (p now age : Int) (ms : List Bool) : List Bool := s.foldl (fun m x => if roleIs p now age x = true then (under l x.f2).foldl setT m else m) ms
theorem roleMarks_iff (l : List S78) (p now age : Int) (s : List S75) : ∀ ms : List Bool, ms.length = 6 → (roleMarks l s p now age ms).length = 6 ∧ ∀ i : Nat, (roleMarks l s p now age ms).getD i false = true ↔ ms.getD i false = true ∨ (i : Int) ∈ rolesRaw l s p now age := by
  induction s with
  | nil => intro ms h; exact ⟨h, fun i => by simp [roleMarks, rolesRaw]⟩
  | cons x t ih =>
    intro ms h
    have hr : rolesRaw l (x :: t) p now age = if roleIs p now age x = true then under l x.f2 ++ rolesRaw l t p now age else rolesRaw l t p now age := by
      unfold rolesRaw
      rw [List.filter_cons]
      split
      · rw [List.map_cons, List.flatten_cons]
      · rfl
    have hm : roleMarks l (x :: t) p now age ms = roleMarks l t p now age (if roleIs p now age x = true then (under l x.f2).foldl setT ms else ms) := rfl
    rw [hm, hr]
    by_cases q : roleIs p now age x = true
    · rw [if_pos q, if_pos q]
      obtain ⟨f1, f2⟩ := setT_fold (under l x.f2) ms h (fun c hc => ((under_mem l x.f2 c).1 hc).2.1)
      obtain ⟨g1, g2⟩ := ih _ f1
      refine ⟨g1, fun i => ?_⟩
      rw [g2 i, f2 i, List.mem_append, or_assoc]
    · rw [if_neg q, if_neg q]
      exact ih ms h
theorem roInner (l : List S78) (s : List S75) (p now age : Int) (u : List Int) (hu : ∀ c ∈ u, 0 ≤ c ∧ c ≤ 5) (hul : u.length ≤ 100) (v : Int) : ∀ (b a : List Int) (ms : List Bool) (k : Nat), u = a ++ b → ms.length = 6 → spec_RolesOf.l1 (k + b.length + 1) l s p now age ms v u (a.length : Int) = spec_RolesOf.l0 k l s p now age (b.foldl setT ms) (wrap64 (v + 1)) := by
  intro b
  induction b with
  | nil =>
    intro a ms k he _
    have hla : u.length = a.length := by rw [he]; simp
    simp only [spec_RolesOf.l1]
    rw [if_neg (by omega)]
    rfl
  | cons x r ih =>
    intro a ms k he hm
    have hla : u.length = a.length + (r.length + 1) := by rw [he]; simp
    have hx' : rd u (a.length : Int) = x := by
      rw [rd_nat, he, getD_get _ _ _ (by simp), List.getElem_append_right (Nat.le_refl _)]
      simp
    have hx := hu x (by rw [he]; simp)
    have hw : wrap64 ((a.length : Int) + 1) = (((a ++ [x]).length : Nat) : Int) := by rw [List.length_append]; unfold wrap64; simp; omega
    have he' : u = (a ++ [x]) ++ r := by rw [he]; simp
    have hn := ih (a ++ [x]) (setT ms x) k he' (by unfold setT; simpa using hm)
    rw [List.foldl_cons, List.length_cons, show k + (r.length + 1) + 1 = (k + r.length + 1) + 1 by omega, ← hn]
    generalize hq : k + r.length + 1 = q
    simp only [spec_RolesOf.l1, hx', hw]
    rw [if_pos (by omega), if_pos (by omega), if_pos hx.1, if_pos (by omega)]
    rfl
theorem roOut (ms : List Bool) (hm : ms.length = 6) (k : Nat) (hk : 7 < k) : spec_RolesOf.l2 k ms [] 0 = some (marked (fun i => ms.getD i false) 6) := by
  refine run (fun k s i => spec_RolesOf.l2 k ms s i) (fun i => marked (fun i => ms.getD i false) i) 6 0 _ ?_ ?_ k (by omega)
  · intro k i _ hi
    have hlen := marked_len (fun i => ms.getD i false) i
    have hr : rdOf false ms (i : Int) = ms.getD i false := by unfold rdOf; rw [Int.toNat_natCast]
    simp only [spec_RolesOf.l2, hr]
    rw [if_pos (by omega), if_pos (by omega), if_pos (by omega), marked_succ, wrap_in (by omega) (by omega)]
    by_cases h : ms.getD i false = true
    · rw [if_pos h, if_pos h, if_pos (by omega)]
      rfl
    · rw [if_neg h, if_neg h]
      rfl
  · intro k _
    simp only [spec_RolesOf.l2]
    rw [if_neg (by omega)]
theorem roOuter (l : List S78) (s : List S75) (p now age : Int) (hl : l.length ≤ 1048576) (hs : s.length ≤ 1048576) : ∀ (b a : List S75) (ms : List Bool) (k : Nat), s = a ++ b → ms.length = 6 → 7000100 + 20 * b.length < k → spec_RolesOf.l0 k l s p now age ms (a.length : Int) = some (marked (fun i => (roleMarks l b p now age ms).getD i false) 6) := by
  intro b
  induction b with
  | nil =>
    intro a ms k he hm hk
    obtain ⟨k, rfl⟩ : ∃ m, k = m + 1 := ⟨k - 1, by omega⟩
    have hla : s.length = a.length := by rw [he]; simp
    simp only [spec_RolesOf.l0]
    rw [if_neg (by omega), roOut ms hm k (by omega)]
    rfl
  | cons x r ih =>
    intro a ms k he hm hk
    obtain ⟨k, rfl⟩ : ∃ m, k = m + 2 := ⟨k - 2, by rw [List.length_cons] at hk; omega⟩
    rw [List.length_cons] at hk
    have hla : s.length = a.length + (r.length + 1) := by rw [he]; simp
    have hx' : rd_T75 s (a.length : Int) = x := by
      rw [rdT75, he, getD_get _ _ _ (by simp), List.getElem_append_right (Nat.le_refl _)]
      simp
    have hw : wrap64 ((a.length : Int) + 1) = (((a ++ [x]).length : Nat) : Int) := by rw [List.length_append]; unfold wrap64; simp; omega
    have he' : s = (a ++ [x]) ++ r := by rw [he]; simp
    have hmk : roleMarks l (x :: r) p now age ms = roleMarks l r p now age (if roleIs p now age x = true then (under l x.f2).foldl setT ms else ms) := rfl
    have hin := fun c hc => ((under_mem l x.f2 c).1 hc).2.1
    have hul := under_len l x.f2
    have hskip : spec_RolesOf.j1 (k + 1) l s p now age ms (a.length : Int) true = some (marked (fun i => (roleMarks l r p now age ms).getD i false) 6) := by
      simp only [spec_RolesOf.j1]
      rw [if_pos (by trivial), hw]
      exact ih (a ++ [x]) ms k he' hm (by omega)
    have htake : spec_RolesOf.j1 (k + 1) l s p now age ms (a.length : Int) false = some (marked (fun i => (roleMarks l r p now age ((under l x.f2).foldl setT ms)).getD i false) 6) := by
      simp only [spec_RolesOf.j1, hx']
      rw [if_neg (by simp), if_pos (by omega), if_pos (by omega), under1 l hl _ k (by omega), Option.bind_some]
      have hn := roInner l s p now age (under l x.f2) hin (by omega) (a.length : Int) (under l x.f2) [] ms (k - (under l x.f2).length - 1) (by simp) hm
      rw [show k - (under l x.f2).length - 1 + (under l x.f2).length + 1 = k by omega] at hn
      refine Eq.trans hn ?_
      rw [hw]
      exact ih (a ++ [x]) _ _ he' (setT_fold (under l x.f2) ms hm hin).1 (by omega)
    rw [hmk]
    rw [show k + 2 = (k + 1) + 1 from rfl]
    simp only [spec_RolesOf.l0, hx', holds1, Option.bind_some]
    rw [if_pos (by omega), if_pos (by omega)]
    unfold roleIs
    by_cases h0 : x.f0 = 1
    · by_cases h1 : x.f1 = p
      · rw [if_pos h0, if_pos h1, decide_eq_true h0, decide_eq_true h1]
        simp only [Bool.true_and]
        cases h3 : holds x.f0 x.f1 x.f2 x.f3 x.f4 x.f5 now age with
        | true =>
          rw [if_pos rfl]
          exact htake
        | false =>
          rw [if_neg (by simp)]
          exact hskip
      · rw [if_pos h0, if_neg h1, hskip, decide_eq_false h1]
        simp
    · rw [if_neg h0, hskip, decide_eq_false h0]
      simp
theorem rolesOf1 (l : List S78) (s : List S75) (p now age : Int) (hl : l.length ≤ 1048576) (hs : s.length ≤ 1048576) (k : Nat) (hk : 28000000 < k) : spec_RolesOf.f k l s p now age = some (rolesOf l s p now age) := by
  unfold spec_RolesOf.f
  have hz : ∀ i : Nat, (List.replicate 6 false).getD i false = false := by
    intro i
    rw [List.getD_eq_getElem?_getD, List.getElem?_replicate]
    split <;> rfl
  rw [if_pos (by omega)]
  refine Eq.trans (roOuter l s p now age hl hs s [] (List.replicate 6 false) k (by simp) rfl (by omega)) (congrArg some ?_)
  unfold rolesOf
  refine marked_congr _ _ 6 fun i _ => ?_
  rw [Bool.eq_iff_iff, (roleMarks_iff l p now age s (List.replicate 6 false) rfl).2 i, hz, decide_eq_true_eq]
  simp
theorem hasRole1 (l : List S78) (s : List S75) (p r now age : Int) (hl : l.length ≤ 1048576) (hs : s.length ≤ 1048576) (k : Nat) (hk : 28000000 < k) : spec_HasRole.f k l s p r now age = some (has (rolesOf l s p now age) r) := by
  have := rolesOf_len l s p now age
  unfold spec_HasRole.f
  rw [rolesOf1 l s p now age hl hs k hk, Option.bind_some, has1 _ _ (by omega) k (by omega), Option.bind_some]
theorem hasRole2 (l : List S78) (s : List S75) (p r now age : Int) (hl : l.length ≤ 1048576) (hs : s.length ≤ 1048576) (k : Nat) (hk : 1048600 < k) : impl_HasRole.f k l s p r now age = some (has (rolesOf l s p now age) r) := by
  have := rolesOf_len l s p now age
  unfold impl_HasRole.f
  rw [rolesOf2 l s p now age hl hs k hk, Option.bind_some, has2 _ _ (by omega) k (by omega), Option.bind_some]
theorem FnExactHasRole : laws_FnExactHasRole.Pure := by
  intro l s p r now age hw hw' _ _ _ _
  suffices h : ∀ k, 30000000 < k → laws_FnExactHasRole.f k l s p r now age = some true from ⟨30000001, h _ (by omega)⟩
  intro k hk
  unfold laws_FnExactHasRole.f
  rw [szIncludes l 1048576 (by omega) (by omega) hw.1]
  simp only [Option.bind_some]
  by_cases h : (l.length : Int) ≤ 1048576
  · rw [if_pos h, if_neg (by omega), szFact s _ (by omega) (by omega) hw'.1]
    simp only [Option.bind_some]
    by_cases h' : (s.length : Int) ≤ 1048576 - (l.length : Int)
    · rw [if_pos h', if_neg (by omega)]
      have hl : (l.map cvIncludes).length = l.length := List.length_map ..
      have hs : (s.map cvFact).length = s.length := List.length_map ..
      simp only [toIncludes l (by omega) k (by omega), toFact s (by omega) k (by omega), hasRole1 (l.map cvIncludes) (s.map cvFact) p r now age (by omega) (by omega) k (by omega), hasRole2 (l.map cvIncludes) (s.map cvFact) p r now age (by omega) (by omega) k (by omega), eqIncludes_self (l.map cvIncludes) (by omega) k (by omega), eqFact_self (s.map cvFact) (by omega) k (by omega), Option.bind_some, bne_self_eq_false, if_true]
      first | done | rfl
    · rw [if_neg h', if_pos (by omega)]
  · rw [if_neg h, if_pos (by omega)]
end Go.Proofs.Ytgmgoabohppkeaa.Pure
