/- FnExactAcceptedUntil: the program's AcceptedUntil answers what the reference's answers, for every store. Conditions: none. -/
import Derived.Test.YtgmgoabohppkeaaLib
import Derived.Test.YtgmgoabohppkeaaXFnExactAcceptedUntilx5
namespace Go.Proofs.Ytgmgoabohppkeaa.Pure
open Go.RowKit Go.Proofs.Ytgmgoabohppkeaa.XFnExactAcceptedUntil Go.Proofs.YtgmgoabohppkeaaW.PrintWords
set_option linter.unusedVariables false
set_option linter.unusedSimpArgs false
open Go.Proofs.YtgmgoabohppkeaaLib
theorem rdT82 (l : List S82) (i : Nat) : rd_T82 l (i : Int) = l.getD i z82 := by
  unfold rd_T82
  rw [Int.toNat_natCast]
theorem rdT75 (l : List S75) (i : Nat) : rd_T75 l (i : Int) = l.getD i z75 := by
  unfold rd_T75
  rw [Int.toNat_natCast]
theorem szFact (l : List S82) (a : Int) (h0 : 0 ≤ a) (h1 : a ≤ 1048576) (hl : l.length ≤ maxLen) : laws_szFactS.f l a = some (if (l.length : Int) ≤ a then a - (l.length : Int) else -1) := by
  unfold maxLen at hl
  unfold laws_szFactS.f
  rw [wrap_in (by omega) (by omega)]
  by_cases h : (l.length : Int) ≤ a
  · rw [if_pos h, if_neg (by omega)]
  · rw [if_neg h, if_pos (by omega)]
def cvFact (x : S82) : S75 := ⟨x.f0, x.f1, x.f2, x.f3, x.f4, x.f5⟩
theorem toFact (l : List S82) (hl : l.length ≤ 1048576) (k : Nat) (hk : l.length < k) : laws_toFactS.f k l = some (l.map cvFact) := by
  unfold laws_toFactS.f
  rw [if_pos (by omega), if_pos (by omega), Int.toNat_natCast]
  refine (run (fun k s i => laws_toFactS.l0 k l s i) (put (fun i => (⟨(l.getD i z82).f0, (l.getD i z82).f1, (l.getD i z82).f2, (l.getD i z82).f3, (l.getD i z82).f4, (l.getD i z82).f5⟩ : S75)) (List.replicate l.length z75)) l.length 0 (l.map cvFact) ?_ ?_ k (by omega))
  · intro k i _ hi
    have hlen : (put (fun i => (⟨(l.getD i z82).f0, (l.getD i z82).f1, (l.getD i z82).f2, (l.getD i z82).f3, (l.getD i z82).f4, (l.getD i z82).f5⟩ : S75)) (List.replicate l.length z75) i).length = l.length := by rw [put_length _ _ _ (by simp; omega), List.length_replicate]
    simp only [laws_toFactS.l0, laws_toFact.f, Option.bind_some, rdT82]
    rw [if_pos (by omega), if_pos (by omega), if_pos (by omega), wrap_succ hi (by omega), Int.toNat_natCast, put_set (fun i => (⟨(l.getD i z82).f0, (l.getD i z82).f1, (l.getD i z82).f2, (l.getD i z82).f3, (l.getD i z82).f4, (l.getD i z82).f5⟩ : S75)) _ i (by simp; omega)]
  · intro k _
    simp only [laws_toFactS.l0]
    rw [if_neg (by omega), put_all _ _ (by simp), map_range_getD l z82 (fun x => (⟨x.f0, x.f1, x.f2, x.f3, x.f4, x.f5⟩ : S75))]
    rfl
theorem eqFact_self (l : List S75) (hl : l.length ≤ 1099511627776) (k : Nat) (hk : l.length < k) : laws_eqFactS.f k l l = some true := by
  unfold laws_eqFactS.f
  rw [if_pos rfl]
  refine run (fun k (_ : Unit) i => laws_eqFactS.l0 k l l i) (fun _ => ()) l.length 0 true ?_ ?_ k (by omega)
  · intro k i _ hi
    simp only [laws_eqFactS.l0, laws_eqFact.f, Option.bind_some, if_true]
    rw [if_pos (by omega), if_pos (by omega), if_pos (by omega), wrap_succ hi hl]
  · intro k _
    simp only [laws_eqFactS.l0]
    rw [if_neg (by omega)]
theorem in1 (x y z : Int) : spec_l1In.f x y z = some (decide (y ≤ x ∧ x ≤ z)) := by
  unfold spec_l1In.f
  by_cases h : x ≥ y
  · rw [if_pos h]; simp [show y ≤ x from h]
  · rw [if_neg h]; simp; omega
theorem in2 (x y z : Int) : impl_InRange.f x y z = some (decide (y ≤ x ∧ x ≤ z)) := by
  unfold impl_InRange.f
  by_cases h : y ≤ x
  · rw [if_pos h]; simp [h]
  · rw [if_neg h]; simp; omega
def timeOk (t : Int) : Bool := decide (0 ≤ t ∧ t ≤ 10000)
theorem time1 (t : Int) : spec_IsTime.f t = some (timeOk t) := by
  simp only [spec_IsTime.f, in1, Option.bind_some]
  rfl
theorem time2 (t : Int) : impl_IsTime.f t = some (timeOk t) := by
  simp only [impl_IsTime.f, in2, Option.bind_some]
  rfl
def hasKind (n k : Int) : Bool := decide (10 ≤ n ∧ n ≤ 49) && (wrap64 (Int.tdiv n 10) == k)
theorem kind1 (n k : Int) : spec_HasKind.f n k = some (hasKind n k) := by
  simp only [spec_HasKind.f, spec_IsName.f, in1, Option.bind_some, ite_and]
  rfl
theorem kind2 (n k : Int) : impl_HasKind.f n k = some (hasKind n k) := by
  simp only [impl_HasKind.f, impl_KindOf.f, impl_IsName.f, in2, Option.bind_some]
  unfold hasKind
  cases decide (10 ≤ n ∧ n ≤ 49) <;> rfl
def claimOk (a b c : Int) : Bool :=
  if a = 1 then hasKind b 1 && decide (0 ≤ c ∧ c ≤ 5) else if a = 2 then hasKind b 1 && hasKind c 2 else if a = 3 then hasKind b 2 && decide (0 ≤ c ∧ c ≤ 3) else if a = 4 then hasKind b 3 && decide (0 ≤ c ∧ c ≤ 3) else false
def isFact (a b c d e f : Int) : Bool := claimOk a b c && (decide (0 ≤ d ∧ d ≤ 9) && (timeOk e && (timeOk f && decide (e ≤ f))))
theorem fact1 (a b c d e f : Int) : spec_IsFact.f a b c d e f = some (isFact a b c d e f) := by
  simp only [spec_IsFact.f, kind1, in1, time1, Option.bind_some, ite_and]
  unfold isFact claimOk
  by_cases h1 : a = 1
  · simp only [if_pos h1, Bool.and_assoc]
  by_cases h2 : a = 2
  · simp only [if_neg h1, if_pos h2, Bool.and_assoc]
  by_cases h3 : a = 3
  · simp only [if_neg h1, if_neg h2, if_pos h3, Bool.and_assoc]
  by_cases h4 : a = 4
  · simp only [if_neg h1, if_neg h2, if_neg h3, if_pos h4, Bool.and_assoc]
  · simp only [if_neg h1, if_neg h2, if_neg h3, if_neg h4, Bool.false_and]
theorem fact2 (a b c d e f : Int) : impl_IsFact.f a b c d e f = some (isFact a b c d e f) := by
  simp only [impl_IsFact.f, impl_isClaim.f, kind2, in2, time2, Option.bind_some, ite_and]
  unfold isFact claimOk
  by_cases h1 : a = 1
  · simp only [if_pos h1, Option.bind_some, ite_and]
  by_cases h2 : a = 2
  · simp only [if_neg h1, if_pos h2, Option.bind_some, ite_and]
  by_cases h3 : a = 3
  · simp only [if_neg h1, if_neg h2, if_pos h3, Option.bind_some, ite_and]
  by_cases h4 : a = 4
  · simp only [if_neg h1, if_neg h2, if_neg h3, if_pos h4, Option.bind_some, ite_and]
  · simp only [if_neg h1, if_neg h2, if_neg h3, if_neg h4, Option.bind_some, ite_and]
def within (a b t : Int) : Bool := timeOk a && (timeOk b && (timeOk t && decide (a ≤ t ∧ t ≤ b)))
theorem within1 (a b t : Int) : spec_IsWithin.f a b t = some (within a b t) := by
  simp only [spec_IsWithin.f, time1, Option.bind_some]
  unfold within
  cases timeOk a
  · rfl
  cases timeOk b
  · rfl
  cases timeOk t
  · rfl
  simp only [if_true, Bool.true_and]
  by_cases h : a ≤ t
  · rw [if_pos h]; simp [h]
  · rw [if_neg h]; simp [h]
theorem within2 (a b t : Int) : impl_IsWithin.f a b t = some (within a b t) := by
  simp only [impl_IsWithin.f, time2, in2, Option.bind_some, ite_and]
  rfl
def ageOf (a b : Int) : Int := if timeOk a = true then if timeOk b = true then if a > b then -1 else wrap64 (b - a) else -1 else -1
theorem age1 (a b : Int) : spec_AgeOf.f a b = some (ageOf a b) := by
  simp only [spec_AgeOf.f, time1, Option.bind_some]
  unfold ageOf
  split
  · split
    · split <;> rfl
    · rfl
  · rfl
theorem age2 (a b : Int) : impl_AgeOf.f a b = some (ageOf a b) := by
  simp only [impl_AgeOf.f, time2, Option.bind_some]
  unfold ageOf
  split
  · split
    · split <;> rfl
    · rfl
  · rfl
theorem age_cases (a b : Int) : ageOf a b = -1 ∨ 0 ≤ ageOf a b := by
  unfold ageOf
  split
  · rename_i h1
    split
    · rename_i h2
      split
      · exact .inl rfl
      · have g1 := of_decide_eq_true (show decide (0 ≤ a ∧ a ≤ 10000) = true from h1)
        have g2 := of_decide_eq_true (show decide (0 ≤ b ∧ b ≤ 10000) = true from h2)
        rw [wrap_in (by omega) (by omega)]
        right
        omega
    · exact .inl rfl
  · exact .inl rfl
def fresh (a b g : Int) : Bool := decide (0 ≤ ageOf a b) && decide (ageOf a b ≤ g)
theorem fresh1 (a b g : Int) : spec_IsFresh.f a b g = some (fresh a b g) := by
  simp only [spec_IsFresh.f, age1, Option.bind_some]
  unfold fresh
  by_cases h : 0 ≤ ageOf a b
  · rw [if_pos (show ageOf a b ≥ 0 from h), decide_eq_true h, Bool.true_and]
  · rw [if_neg (show ¬ ageOf a b ≥ 0 from h), decide_eq_false h, Bool.false_and]
def holds (f0 f1 f2 f3 f4 f5 now age : Int) : Bool := isFact f0 f1 f2 f3 f4 f5 && (within f4 f5 now && fresh f4 now age)
theorem holds1 (f0 f1 f2 f3 f4 f5 now age : Int) : spec_HoldsAt.f f0 f1 f2 f3 f4 f5 now age = some (holds f0 f1 f2 f3 f4 f5 now age) := by
  simp only [spec_HoldsAt.f, fact1, within1, fresh1, Option.bind_some, ite_and]
  rfl
theorem holds2 (f0 f1 f2 f3 f4 f5 now age : Int) : impl_HoldsAt.f f0 f1 f2 f3 f4 f5 now age = some (holds f0 f1 f2 f3 f4 f5 now age) := by
  simp only [impl_HoldsAt.f, fact2, within2, age2, Option.bind_some, ite_and]
  unfold holds
  by_cases h : within f4 f5 now = true
  · have h' := h
    unfold within at h'
    simp only [Bool.and_eq_true, decide_eq_true_eq] at h'
    obtain ⟨g1, _, g3, g4⟩ := h'
    have e : 0 ≤ ageOf f4 now := by
      have k1 := of_decide_eq_true (show decide (0 ≤ f4 ∧ f4 ≤ 10000) = true from g1)
      have k2 := of_decide_eq_true (show decide (0 ≤ now ∧ now ≤ 10000) = true from g3)
      unfold ageOf
      rw [if_pos g1, if_pos g3, if_neg (by omega), wrap_in (by omega) (by omega)]
      omega
    unfold fresh
    rw [decide_eq_true e, Bool.true_and]
  · rw [Bool.eq_false_iff.2 h]
    rfl
/-- Two lists in strictly ascending order with the same members are one list. -/
theorem strict_ext : ∀ (a b : List Int), a.Pairwise (· < ·) → b.Pairwise (· < ·) → (∀ x, x ∈ a ↔ x ∈ b) → a = b := by
  intro a
  induction a with
  | nil =>
    intro b _ _ h
    cases b with
    | nil => rfl
    | cons y b => exact absurd ((h y).2 (List.mem_cons_self)) (by simp)
  | cons x a ih =>
    intro b ha hb h
    cases b with
    | nil => exact absurd ((h x).1 (List.mem_cons_self)) (by simp)
    | cons y b =>
      rw [List.pairwise_cons] at ha hb
      have hxy : x = y := by
        rcases List.mem_cons.1 ((h x).1 (List.mem_cons_self)) with e | e
        · exact e
        · rcases List.mem_cons.1 ((h y).2 (List.mem_cons_self)) with e2 | e2
          · exact e2.symm
          · have g1 := hb.1 x e
            have g2 := ha.1 y e2
            omega
      subst hxy
      congr 1
      refine ih b ha.2 hb.2 fun z => ⟨fun hz => ?_, fun hz => ?_⟩
      · rcases List.mem_cons.1 ((h z).1 (List.mem_cons_of_mem _ hz)) with e | e
        · have := ha.1 z hz
          omega
        · exact e
      · rcases List.mem_cons.1 ((h z).2 (List.mem_cons_of_mem _ hz)) with e | e
        · have := hb.1 z hz
          omega
        · exact e
theorem upTo_mem (d : Array Int) (m : Nat) (x : Int) : x ∈ Go.Lib.compactUpTo d m ↔ ∃ j, j < m ∧ d[j]! = x := by
  induction m with
  | zero => simp [Go.Lib.compactUpTo]
  | succ m ih =>
    rw [Go.Lib.compactUpTo_succ, List.mem_append, ih]
    constructor
    · rintro (⟨j, hj, e⟩ | h)
      · exact ⟨j, by omega, e⟩
      · split at h
        · exact ⟨m, by omega, (List.mem_singleton.1 h).symm⟩
        · cases h
    · rintro ⟨j, hj, e⟩
      rcases Nat.lt_or_ge j m with h | h
      · exact .inl ⟨j, h, e⟩
      · obtain rfl : j = m := by omega
        by_cases hk : Go.Lib.keeps d j = true
        · rw [if_pos hk]
          exact .inr (by simp [e])
        · unfold Go.Lib.keeps at hk
          simp only [decide_eq_true_eq, not_or, Decidable.not_not] at hk
          exact .inl ⟨j - 1, by omega, by rw [← hk.2]; exact e⟩
theorem upTo_strict (d : Array Int) (m : Nat) (h : ∀ i j, i ≤ j → j < m → d[i]! ≤ d[j]!) : (Go.Lib.compactUpTo d m).Pairwise (· < ·) := by
  induction m with
  | zero => simp [Go.Lib.compactUpTo]
  | succ m ih =>
    rw [Go.Lib.compactUpTo_succ]
    split
    · rename_i hk
      rw [List.pairwise_append]
      refine ⟨ih (fun i j h1 h2 => h i j h1 (by omega)), List.pairwise_singleton _ _, fun x hx y hy => ?_⟩
      rw [List.mem_singleton] at hy
      subst hy
      obtain ⟨j, hj, rfl⟩ := (upTo_mem d m x).1 hx
      unfold Go.Lib.keeps at hk
      simp only [decide_eq_true_eq] at hk
      have g1 := h j (m - 1) (by omega) (by omega)
      have g2 := h (m - 1) m (by omega) (by omega)
      rcases hk with hk | hk
      · omega
      · omega
    · rw [List.append_nil]
      exact ih (fun i j h1 h2 => h i j h1 (by omega))
theorem compact_sorted (l : List Int) : (Go.Lib.compact (l.mergeSort fun x y => decide (x ≤ y))).Pairwise (· < ·) ∧ ∀ x, x ∈ Go.Lib.compact (l.mergeSort fun x y => decide (x ≤ y)) ↔ x ∈ l := by
  have hs : (l.mergeSort fun x y => decide (x ≤ y)).Pairwise fun x y => decide (x ≤ y) = true := List.pairwise_mergeSort (fun a b c h1 h2 => by simp only [decide_eq_true_eq] at *; omega) (fun a b => by simp only [Bool.or_eq_true, decide_eq_true_eq]; omega) l
  have hm : ∀ x, x ∈ (l.mergeSort fun x y => decide (x ≤ y)) ↔ x ∈ l := fun x => List.mem_mergeSort
  generalize (l.mergeSort fun x y => decide (x ≤ y)) = s at hs hm
  unfold Go.Lib.compact
  have hg : ∀ i, i < s.length → s.toArray[i]! = s.getD i 0 := fun i hi => by
    rw [getElem!_pos s.toArray i (by simpa using hi), getD_get s i 0 hi]
    rfl
  constructor
  · refine upTo_strict _ _ fun i j h1 h2 => ?_
    rw [hg i (by omega), hg j h2, getD_get s i 0 (by omega), getD_get s j 0 h2]
    rcases Nat.lt_or_ge i j with h3 | h3
    · have := List.pairwise_iff_getElem.1 hs i j (by omega) h2 h3
      simpa using this
    · obtain rfl : i = j := by omega
      exact Int.le_refl _
  · intro x
    rw [upTo_mem, ← hm x]
    constructor
    · rintro ⟨j, hj, rfl⟩
      rw [hg j hj]
      exact getD_mem s j 0 hj
    · intro hx
      obtain ⟨j, hj, e⟩ := List.getElem_of_mem hx
      exact ⟨j, hj, by rw [hg j hj, getD_get s j 0 hj]; exact e⟩
def whoIs (kind sub val now age : Int) (x : S75) : Bool := decide (x.f0 = kind) && (decide (x.f1 = sub) && (decide (x.f2 = val) && holds x.f0 x.f1 x.f2 x.f3 x.f4 x.f5 now age))
def whoRaw (l : List S75) (kind sub val now age : Int) : List Int := (l.filter (whoIs kind sub val now age)).map fun x => x.f3
def who (l : List S75) (kind sub val now age : Int) : List Int := Go.Lib.compact ((whoRaw l kind sub val now age).mergeSort fun x y => decide (x ≤ y))
theorem raw_step (l : List S75) (kind sub val now age : Int) (i : Nat) (hi : i < l.length) : whoRaw (l.take (i + 1)) kind sub val now age = if whoIs kind sub val now age (l.getD i z75) = true then whoRaw (l.take i) kind sub val now age ++ [(l.getD i z75).f3] else whoRaw (l.take i) kind sub val now age := by
  unfold whoRaw
  rw [List.take_succ_eq_append_getElem hi, List.filter_append, List.map_append, getD_get l i _ hi]
  by_cases h : whoIs kind sub val now age l[i] = true
  · rw [if_pos h]
    simp [h]
  · rw [if_neg h]
    simp [h]
theorem who2 (l : List S75) (kind sub val now age : Int) (hl : l.length ≤ 1048576) (k : Nat) (hk : 1048577 < k) : impl_WhoState.f k l kind sub val now age = some (who l kind sub val now age) := by
  unfold impl_WhoState.f
  refine run (fun k s i => impl_WhoState.l0 k kind sub val now age s l (l.length : Int) i) (fun i => whoRaw (l.take i) kind sub val now age) l.length 0 _ ?_ ?_ k (by omega)
  · intro k i _ hi
    have hlen : (whoRaw (l.take i) kind sub val now age).length ≤ i := by
      unfold whoRaw
      rw [List.length_map]
      exact Nat.le_trans (List.length_filter_le _ _) (by simp; omega)
    simp only [impl_WhoState.l0, rdT75, holds2, Option.bind_some]
    rw [if_pos (by omega), if_pos (by omega), if_pos (by omega), wrap_succ hi (by omega), raw_step l kind sub val now age i hi]
    generalize l.getD i z75 = x
    unfold whoIs
    by_cases h0 : x.f0 = kind
    · by_cases h1 : x.f1 = sub
      · by_cases h2 : x.f2 = val
        · rw [if_pos h0, if_pos h1, if_pos h2, decide_eq_true h0, decide_eq_true h1, decide_eq_true h2]
          simp only [Bool.true_and]
          by_cases h3 : holds x.f0 x.f1 x.f2 x.f3 x.f4 x.f5 now age = true
          · rw [if_pos h3, if_pos h3, if_pos (by omega)]
          · rw [if_neg h3, if_neg h3]
        · rw [if_pos h0, if_pos h1, if_neg h2, decide_eq_false h2]
          simp
      · rw [if_pos h0, if_neg h1, decide_eq_false h1]
        simp
    · rw [if_neg h0, decide_eq_false h0]
      simp
  · intro k _
    simp only [impl_WhoState.l0]
    have hlen : (whoRaw (l.take l.length) kind sub val now age).length ≤ l.length := by
      unfold whoRaw
      rw [List.length_map]
      exact Nat.le_trans (List.length_filter_le _ _) (by simp)
    rw [if_neg (by omega), slices_Sort_int_int.f, if_pos (by omega), Option.bind_some, slices_Compact_int_int.f, Option.bind_some, List.take_length]
    rfl
def hasId (l : List S75) (kind sub val now age : Int) (id : Int) : Bool := l.any fun x => decide (x.f3 = id) && whoIs kind sub val now age x
def whoUp (l : List S75) (kind sub val now age : Int) (n : Nat) : List Int := ((List.range n).filter fun (i : Nat) => hasId l kind sub val now age (i : Int)).map fun (i : Nat) => (i : Int)
theorem whoInner (l : List S75) (kind sub val now age : Int) (hl : l.length ≤ 1048576) (out : List Int) (hout : out.length < 100) (id : Int) (d : Nat) : ∀ i k, i + d = l.length → d < k → ∃ k', k ≤ k' + d + 1 ∧ spec_WhoState.l1 k l kind sub val now age out id (i : Int) = spec_WhoState.l0 k' l kind sub val now age (if hasId (l.drop i) kind sub val now age id = true then out ++ [id] else out) (wrap64 (id + 1)) := by
  induction d with
  | zero =>
    intro i k hi hk
    obtain ⟨k, rfl⟩ : ∃ m, k = m + 1 := ⟨k - 1, by omega⟩
    refine ⟨k, by omega, ?_⟩
    simp only [spec_WhoState.l1]
    rw [if_neg (by omega), List.drop_of_length_le (by omega)]
    rfl
  | succ d ih =>
    intro i k hi hk
    obtain ⟨k, rfl⟩ : ∃ m, k = m + 1 := ⟨k - 1, by omega⟩
    have hlt : i < l.length := by omega
    obtain ⟨k', hk', e⟩ := ih (i + 1) k (by omega) (by omega)
    have hd : hasId (l.drop i) kind sub val now age id = ((decide ((l.getD i z75).f3 = id) && whoIs kind sub val now age (l.getD i z75)) || hasId (l.drop (i + 1)) kind sub val now age id) := by
      unfold hasId
      rw [List.drop_eq_getElem_cons hlt, List.any_cons, getD_get l i _ hlt]
    simp only [spec_WhoState.l1, rdT75, holds1, Option.bind_some]
    rw [if_pos (by omega), if_pos (by omega), wrap_succ hlt (by omega), hd]
    generalize l.getD i z75 = x
    unfold whoIs
    by_cases h : x.f3 = id
    · by_cases h0 : x.f0 = kind
      · by_cases h1 : x.f1 = sub
        · by_cases h2 : x.f2 = val
          · by_cases h3 : holds x.f0 x.f1 x.f2 x.f3 x.f4 x.f5 now age = true
            · refine ⟨k, by omega, ?_⟩
              rw [if_pos h, if_pos h0, if_pos h1, if_pos h2, if_pos h3, if_pos (by omega), decide_eq_true h0, decide_eq_true h1, decide_eq_true h2, decide_eq_true h, h3]
              simp
            · refine ⟨k', by omega, ?_⟩
              rw [if_pos h, if_pos h0, if_pos h1, if_pos h2, if_neg h3, e, Bool.eq_false_iff.2 h3]
              simp
          · refine ⟨k', by omega, ?_⟩
            rw [if_pos h, if_pos h0, if_pos h1, if_neg h2, e, decide_eq_false h2]
            simp
        · refine ⟨k', by omega, ?_⟩
          rw [if_pos h, if_pos h0, if_neg h1, e, decide_eq_false h1]
          simp
      · refine ⟨k', by omega, ?_⟩
        rw [if_pos h, if_neg h0, e, decide_eq_false h0]
        simp
    · refine ⟨k', by omega, ?_⟩
      rw [if_neg h, e, decide_eq_false h]
      simp
theorem whoUp_step (l : List S75) (kind sub val now age : Int) (n : Nat) : whoUp l kind sub val now age (n + 1) = if hasId l kind sub val now age (n : Int) = true then whoUp l kind sub val now age n ++ [(n : Int)] else whoUp l kind sub val now age n := by
  unfold whoUp
  rw [List.range_succ, List.filter_append, List.map_append]
  by_cases h : hasId l kind sub val now age (n : Int) = true
  · rw [if_pos h]
    simp [h]
  · rw [if_neg h]
    simp [h]
theorem whoOuter (l : List S75) (kind sub val now age : Int) (hl : l.length ≤ 1048576) (d : Nat) : ∀ i k, i + d = 10 → d * 1048580 < k → spec_WhoState.l0 k l kind sub val now age (whoUp l kind sub val now age i) (i : Int) = some (whoUp l kind sub val now age 10) := by
  induction d with
  | zero =>
    intro i k hi hk
    obtain ⟨k, rfl⟩ : ∃ m, k = m + 1 := ⟨k - 1, by omega⟩
    obtain rfl : i = 10 := by omega
    simp only [spec_WhoState.l0]
    rw [if_neg (by omega)]
  | succ d ih =>
    intro i k hi hk
    obtain ⟨k, rfl⟩ : ∃ m, k = m + 1 := ⟨k - 1, by omega⟩
    have hlen : (whoUp l kind sub val now age i).length ≤ i := by
      unfold whoUp
      rw [List.length_map]
      exact Nat.le_trans (List.length_filter_le _ _) (by simp)
    simp only [spec_WhoState.l0]
    rw [if_pos (by omega)]
    obtain ⟨k', hk', e⟩ := whoInner l kind sub val now age hl (whoUp l kind sub val now age i) (by omega) (i : Int) l.length 0 k (by omega) (by omega)
    refine Eq.trans e ?_
    rw [List.drop_zero, ← whoUp_step, wrap_in (by omega) (by omega)]
    have hm : (d + 1) * 1048580 = d * 1048580 + 1048580 := Nat.succ_mul d 1048580
    have hz : d * 1048580 < k' := by
      rw [hm] at hk
      generalize d * 1048580 = z at hk ⊢
      clear ih e hm
      omega
    exact ih (i + 1) k' (by omega) hz
theorem whoUp_eq (l : List S75) (kind sub val now age : Int) : whoUp l kind sub val now age 10 = who l kind sub val now age := by
  obtain ⟨h1, h2⟩ := compact_sorted (whoRaw l kind sub val now age)
  refine strict_ext _ _ ?_ h1 fun x => ?_
  · unfold whoUp
    rw [List.pairwise_map]
    refine List.Pairwise.filter _ (List.pairwise_lt_range.imp fun h => ?_)
    omega
  · unfold who
    rw [h2 x]
    unfold whoUp whoRaw
    simp only [List.mem_map, List.mem_filter, List.mem_range]
    constructor
    · rintro ⟨i, ⟨_, h⟩, rfl⟩
      unfold hasId at h
      rw [List.any_eq_true] at h
      obtain ⟨y, hy, g⟩ := h
      simp only [Bool.and_eq_true, decide_eq_true_eq] at g
      exact ⟨y, ⟨hy, g.2⟩, g.1⟩
    · rintro ⟨y, ⟨hy, g⟩, rfl⟩
      have g' := g
      unfold whoIs holds isFact at g'
      simp only [Bool.and_eq_true, decide_eq_true_eq] at g'
      obtain ⟨_, _, _, ⟨_, ⟨b0, b1⟩, _⟩, _⟩ := g'
      refine ⟨y.f3.toNat, ⟨by omega, ?_⟩, by omega⟩
      unfold hasId
      rw [List.any_eq_true]
      refine ⟨y, hy, ?_⟩
      rw [g, Bool.and_true, decide_eq_true_eq]
      omega
theorem who1 (l : List S75) (kind sub val now age : Int) (hl : l.length ≤ 1048576) (k : Nat) (hk : 10485800 < k) : spec_WhoState.f k l kind sub val now age = some (who l kind sub val now age) := by
  unfold spec_WhoState.f
  rw [← whoUp_eq]
  exact whoOuter l kind sub val now age hl 10 0 k (by omega) (by omega)
theorem who_length (l : List S75) (kind sub val now age : Int) : (who l kind sub val now age).length ≤ 10 := by
  rw [← whoUp_eq]
  unfold whoUp
  rw [List.length_map]
  exact Nat.le_trans (List.length_filter_le _ _) (by simp)
def accepted (l : List S75) (kind sub val now age least : Int) : Bool := decide (((who l kind sub val now age).length : Int) ≥ least)
theorem accepted1 (l : List S75) (kind sub val now age least : Int) (hl : l.length ≤ 1048576) (k : Nat) (hk : 10485800 < k) : spec_IsAccepted.f k l kind sub val now age least = some (accepted l kind sub val now age least) := by
  unfold spec_IsAccepted.f
  rw [who1 l kind sub val now age hl k hk, Option.bind_some]
  rfl
theorem accepted2 (l : List S75) (kind sub val now age least : Int) (hl : l.length ≤ 1048576) (k : Nat) (hk : 10485800 < k) : impl_IsAccepted.f k l kind sub val now age least = some (accepted l kind sub val now age least) := by
  unfold impl_IsAccepted.f
  rw [who2 l kind sub val now age hl k (by omega), Option.bind_some]
  rfl
theorem wrap_small (d : Nat) (t : Int) (h : t + (d + 1 : Nat) = 10000) (h0 : 0 ≤ t) : wrap64 (t + 1) = t + 1 := wrap_in (by omega) (by omega)
def untilFrom (acc : Int → Bool) : Nat → Int → Int
  | 0, t => t
  | d + 1, t => if acc (t + 1) = true then untilFrom acc d (t + 1) else t
theorem until_all (acc : Int → Bool) (h : ∀ t, acc t = true) (d : Nat) : ∀ t, untilFrom acc d t = t + d := by
  induction d with
  | zero => intro t; simp [untilFrom]
  | succ d ih =>
    intro t
    rw [untilFrom, if_pos (h _), ih]
    omega
theorem untilLoop1 (l : List S75) (kind sub val age least : Int) (hl : l.length ≤ 1048576) (d : Nat) : ∀ (t : Int) (k : Nat), 0 ≤ t → t + d = 10000 → d + 10485900 < k → spec_AcceptedUntil.l0 k l kind sub val age least t = some (untilFrom (fun t => accepted l kind sub val t age least) d t) := by
  induction d with
  | zero =>
    intro t k h0 ht hk
    obtain ⟨k, rfl⟩ : ∃ m, k = m + 1 := ⟨k - 1, by omega⟩
    simp only [spec_AcceptedUntil.l0]
    rw [if_neg (by omega)]
    rfl
  | succ d ih =>
    intro t k h0 ht hk
    obtain ⟨k, rfl⟩ : ∃ m, k = m + 1 := ⟨k - 1, by omega⟩
    simp only [spec_AcceptedUntil.l0]
    rw [if_pos (by omega), wrap_small d t ht h0, accepted1 l kind sub val (t + 1) age least hl k (by omega), Option.bind_some, ih (t + 1) k (by omega) (by omega) (by omega), untilFrom]
    split <;> rfl
theorem untilLoop2 (l : List S75) (kind sub val age least : Int) (hl : l.length ≤ 1048576) (d : Nat) : ∀ (t : Int) (k : Nat), 0 ≤ t → t + d = 10000 → d + 10485900 < k → impl_AcceptedUntil.l0 k l kind sub val t age least = some (untilFrom (fun t => accepted l kind sub val t age least) d t) := by
  induction d with
  | zero =>
    intro t k h0 ht hk
    obtain ⟨k, rfl⟩ : ∃ m, k = m + 1 := ⟨k - 1, by omega⟩
    simp only [impl_AcceptedUntil.l0]
    rw [if_neg (by omega)]
    rfl
  | succ d ih =>
    intro t k h0 ht hk
    obtain ⟨k, rfl⟩ : ∃ m, k = m + 1 := ⟨k - 1, by omega⟩
    simp only [impl_AcceptedUntil.l0]
    rw [if_pos (by omega), wrap_small d t ht h0, accepted2 l kind sub val (t + 1) age least hl k (by omega), Option.bind_some, ih (t + 1) k (by omega) (by omega) (by omega), untilFrom]
    split <;> rfl
def untilOf (l : List S75) (kind sub val now age least : Int) : Int := if timeOk now = true then if accepted l kind sub val now age least = true then untilFrom (fun t => accepted l kind sub val t age least) (10000 - now).toNat now else -1 else -1
theorem until1 (l : List S75) (kind sub val now age least : Int) (hl : l.length ≤ 1048576) (k : Nat) (hk : 20000000 < k) : spec_AcceptedUntil.f k l kind sub val now age least = some (untilOf l kind sub val now age least) := by
  obtain ⟨k, rfl⟩ : ∃ m, k = m + 1 := ⟨k - 1, by omega⟩
  unfold spec_AcceptedUntil.f untilOf
  rw [time1, Option.bind_some]
  by_cases h : timeOk now = true
  · have h' := of_decide_eq_true (show decide (0 ≤ now ∧ now ≤ 10000) = true from h)
    rw [if_pos h, if_pos h, accepted1 l kind sub val now age least hl (k + 1) (by omega), Option.bind_some]
    simp only [spec_AcceptedUntil.j0]
    by_cases g : accepted l kind sub val now age least = true
    · rw [if_pos g, g, if_neg (by simp)]
      by_cases z : least ≤ 0
      · have e := until_all (fun t => accepted l kind sub val t age least) (fun t => decide_eq_true (by omega)) (10000 - now).toNat now
        rw [if_pos z, e]
        congr 1
        omega
      · rw [if_neg z, untilLoop1 l kind sub val age least hl (10000 - now).toNat now k h'.1 (by omega) (by omega)]
    · rw [if_neg g, Bool.eq_false_iff.2 g, if_pos (by simp)]
  · rw [if_neg h, if_neg h]
    simp only [spec_AcceptedUntil.j0]
    rw [if_pos trivial]
theorem until2 (l : List S75) (kind sub val now age least : Int) (hl : l.length ≤ 1048576) (k : Nat) (hk : 20000000 < k) : impl_AcceptedUntil.f k l kind sub val now age least = some (untilOf l kind sub val now age least) := by
  obtain ⟨k, rfl⟩ : ∃ m, k = m + 1 := ⟨k - 1, by omega⟩
  unfold impl_AcceptedUntil.f untilOf
  rw [time2, Option.bind_some]
  by_cases h : timeOk now = true
  · have h' := of_decide_eq_true (show decide (0 ≤ now ∧ now ≤ 10000) = true from h)
    rw [if_pos h, if_pos h, accepted2 l kind sub val now age least hl (k + 1) (by omega), Option.bind_some]
    simp only [impl_AcceptedUntil.j0]
    by_cases g : accepted l kind sub val now age least = true
    · rw [if_pos g, g, if_neg (by simp), untilLoop2 l kind sub val age least hl (10000 - now).toNat now k h'.1 (by omega) (by omega)]
    · rw [if_neg g, Bool.eq_false_iff.2 g, if_pos (by simp)]
  · rw [if_neg h, if_neg h]
    simp only [impl_AcceptedUntil.j0]
    rw [if_pos trivial]
theorem FnExactAcceptedUntil : laws_FnExactAcceptedUntil.Pure := by
  intro l kind sub val now age least hw _ _ _ _ _ _
  suffices h : ∀ k, 20000000 < k → laws_FnExactAcceptedUntil.f k l kind sub val now age least = some true from ⟨20000001, h _ (by omega)⟩
  intro k hk
  unfold laws_FnExactAcceptedUntil.f
  rw [szFact l 1048576 (by omega) (by omega) hw.1, Option.bind_some]
  by_cases h : (l.length : Int) ≤ 1048576
  · have hm : (l.map cvFact).length = l.length := List.length_map ..
    rw [if_pos h, if_neg (by omega)]
    simp only [toFact l (by omega) k (by omega), until1 (l.map cvFact) kind sub val now age least (by omega) k (by omega), until2 (l.map cvFact) kind sub val now age least (by omega) k (by omega), eqFact_self (l.map cvFact) (by omega) k (by omega), Option.bind_some, if_true]
    first | done | rfl
  · rw [if_neg h, if_pos (by omega)]
end Go.Proofs.Ytgmgoabohppkeaa.Pure
