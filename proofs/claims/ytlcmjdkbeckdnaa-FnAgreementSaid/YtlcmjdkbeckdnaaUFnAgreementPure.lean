/- FnAgreement: what is said of agreement holds for all bytes. Conditions: none. -/
import Derived.Test.YtlcmjdkbeckdnaaUFnAgreementLib
import Derived.Test.YtlcmjdkbeckdnaaUFnAgreementx12
namespace Go.Proofs.Ytlcmjdkbeckdnaa.Pure
open Go.RowKit Go.Proofs.Ytlcmjdkbeckdnaa.XFnAgreement Go.Proofs.YtlcmjdkbeckdnaaW.PrintWords
set_option linter.unusedVariables false
set_option linter.unusedSimpArgs false
open Go.Proofs.YtlcmjdkbeckdnaaLib
theorem rdT54 (l : List S54) (i : Nat) : rd_T54 l (i : Int) = l.getD i z54 := by
  unfold rd_T54
  rw [Int.toNat_natCast]
theorem in1 (x y z : Int) : spec_l1In.f x y z = some (decide (y ≤ x ∧ x ≤ z)) := by
  unfold spec_l1In.f
  by_cases h : x ≥ y
  · rw [if_pos h]; simp [show y ≤ x from h]
  · rw [if_neg h]; simp; omega
theorem in2 (x y z : Int) : impl_InRange.f x y z = some (decide (y ≤ x ∧ x ≤ z)) := by
  unfold impl_InRange.f
  by_cases h : y ≤ x
  · rw [if_pos h]; simp [h]
  · rw [if_neg h]; simp; omega
def timeOk (t : Int) : Bool := decide (0 ≤ t ∧ t ≤ 10000)
theorem time1 (t : Int) : spec_IsTime.f t = some (timeOk t) := by
  simp only [spec_IsTime.f, in1, Option.bind_some]
  rfl
theorem time2 (t : Int) : impl_IsTime.f t = some (timeOk t) := by
  simp only [impl_IsTime.f, in2, Option.bind_some]
  rfl
def hasKind (n k : Int) : Bool := decide (10 ≤ n ∧ n ≤ 49) && (wrap64 (Int.tdiv n 10) == k)
theorem kind1 (n k : Int) : spec_HasKind.f n k = some (hasKind n k) := by
  simp only [spec_HasKind.f, spec_IsName.f, in1, Option.bind_some, ite_and]
  rfl
theorem kind2 (n k : Int) : impl_HasKind.f n k = some (hasKind n k) := by
  simp only [impl_HasKind.f, impl_KindOf.f, impl_IsName.f, in2, Option.bind_some]
  unfold hasKind
  cases decide (10 ≤ n ∧ n ≤ 49) <;> rfl
def claimOk (a b c : Int) : Bool :=
  if a = 1 then hasKind b 1 && decide (0 ≤ c ∧ c ≤ 5) else if a = 2 then hasKind b 1 && hasKind c 2 else if a = 3 then hasKind b 2 && decide (0 ≤ c ∧ c ≤ 3) else if a = 4 then hasKind b 3 && decide (0 ≤ c ∧ c ≤ 3) else false
def isFact (a b c d e f : Int) : Bool := claimOk a b c && (decide (0 ≤ d ∧ d ≤ 9) && (timeOk e && (timeOk f && decide (e ≤ f))))
theorem fact1 (a b c d e f : Int) : spec_IsFact.f a b c d e f = some (isFact a b c d e f) := by
  simp only [spec_IsFact.f, kind1, in1, time1, Option.bind_some, ite_and]
  unfold isFact claimOk
  by_cases h1 : a = 1
  · simp only [if_pos h1, Bool.and_assoc]
  by_cases h2 : a = 2
  · simp only [if_neg h1, if_pos h2, Bool.and_assoc]
  by_cases h3 : a = 3
  · simp only [if_neg h1, if_neg h2, if_pos h3, Bool.and_assoc]
  by_cases h4 : a = 4
  · simp only [if_neg h1, if_neg h2, if_neg h3, if_pos h4, Bool.and_assoc]
  · simp only [if_neg h1, if_neg h2, if_neg h3, if_neg h4, Bool.false_and]
theorem fact2 (a b c d e f : Int) : impl_IsFact.f a b c d e f = some (isFact a b c d e f) := by
  simp only [impl_IsFact.f, impl_isClaim.f, kind2, in2, time2, Option.bind_some, ite_and]
  unfold isFact claimOk
  by_cases h1 : a = 1
  · simp only [if_pos h1, Option.bind_some, ite_and]
  by_cases h2 : a = 2
  · simp only [if_neg h1, if_pos h2, Option.bind_some, ite_and]
  by_cases h3 : a = 3
  · simp only [if_neg h1, if_neg h2, if_pos h3, Option.bind_some, ite_and]
  by_cases h4 : a = 4
  · simp only [if_neg h1, if_neg h2, if_neg h3, if_pos h4, Option.bind_some, ite_and]
  · simp only [if_neg h1, if_neg h2, if_neg h3, if_neg h4, Option.bind_some, ite_and]
def within (a b t : Int) : Bool := timeOk a && (timeOk b && (timeOk t && decide (a ≤ t ∧ t ≤ b)))
theorem within2 (a b t : Int) : impl_IsWithin.f a b t = some (within a b t) := by
  simp only [impl_IsWithin.f, time2, in2, Option.bind_some, ite_and]
  rfl
def ageOf (a b : Int) : Int := if timeOk a = true then if timeOk b = true then if a > b then -1 else wrap64 (b - a) else -1 else -1
theorem age2 (a b : Int) : impl_AgeOf.f a b = some (ageOf a b) := by
  simp only [impl_AgeOf.f, time2, Option.bind_some]
  unfold ageOf
  split
  · split
    · split <;> rfl
    · rfl
  · rfl
theorem age_cases (a b : Int) : ageOf a b = -1 ∨ 0 ≤ ageOf a b := by
  unfold ageOf
  split
  · rename_i h1
    split
    · rename_i h2
      split
      · exact .inl rfl
      · have g1 := of_decide_eq_true (show decide (0 ≤ a ∧ a ≤ 10000) = true from h1)
        have g2 := of_decide_eq_true (show decide (0 ≤ b ∧ b ≤ 10000) = true from h2)
        rw [wrap_in (by omega) (by omega)]
        right
        omega
    · exact .inl rfl
  · exact .inl rfl
def fresh (a b g : Int) : Bool := decide (0 ≤ ageOf a b) && decide (ageOf a b ≤ g)
def holds (f0 f1 f2 f3 f4 f5 now age : Int) : Bool := isFact f0 f1 f2 f3 f4 f5 && (within f4 f5 now && fresh f4 now age)
theorem holds2 (f0 f1 f2 f3 f4 f5 now age : Int) : impl_HoldsAt.f f0 f1 f2 f3 f4 f5 now age = some (holds f0 f1 f2 f3 f4 f5 now age) := by
  simp only [impl_HoldsAt.f, fact2, within2, age2, Option.bind_some, ite_and]
  unfold holds
  by_cases h : within f4 f5 now = true
  · have h' := h
    unfold within at h'
    simp only [Bool.and_eq_true, decide_eq_true_eq] at h'
    obtain ⟨g1, _, g3, g4⟩ := h'
    have e : 0 ≤ ageOf f4 now := by
      have k1 := of_decide_eq_true (show decide (0 ≤ f4 ∧ f4 ≤ 10000) = true from g1)
      have k2 := of_decide_eq_true (show decide (0 ≤ now ∧ now ≤ 10000) = true from g3)
      unfold ageOf
      rw [if_pos g1, if_pos g3, if_neg (by omega), wrap_in (by omega) (by omega)]
      omega
    unfold fresh
    rw [decide_eq_true e, Bool.true_and]
  · rw [Bool.eq_false_iff.2 h]
    rfl
/-- Two lists in strictly ascending order with the same members are one list. -/
theorem strict_ext : ∀ (a b : List Int), a.Pairwise (· < ·) → b.Pairwise (· < ·) → (∀ x, x ∈ a ↔ x ∈ b) → a = b := by
  intro a
  induction a with
  | nil =>
    intro b _ _ h
    cases b with
    | nil => rfl
    | cons y b => exact absurd ((h y).2 (List.mem_cons_self)) (by simp)
  | cons x a ih =>
    intro b ha hb h
    cases b with
    | nil => exact absurd ((h x).1 (List.mem_cons_self)) (by simp)
    | cons y b =>
      rw [List.pairwise_cons] at ha hb
      have hxy : x = y := by
        rcases List.mem_cons.1 ((h x).1 (List.mem_cons_self)) with e | e
        · exact e
        · rcases List.mem_cons.1 ((h y).2 (List.mem_cons_self)) with e2 | e2
          · exact e2.symm
          · have g1 := hb.1 x e
            have g2 := ha.1 y e2
            omega
      subst hxy
      congr 1
      refine ih b ha.2 hb.2 fun z => ⟨fun hz => ?_, fun hz => ?_⟩
      · rcases List.mem_cons.1 ((h z).1 (List.mem_cons_of_mem _ hz)) with e | e
        · have := ha.1 z hz
          omega
        · exact e
      · rcases List.mem_cons.1 ((h z).2 (List.mem_cons_of_mem _ hz)) with e | e
        · have := hb.1 z hz
          omega
        · exact e
theorem upTo_mem (d : Array Int) (m : Nat) (x : Int) : x ∈ Go.Lib.compactUpTo d m ↔ ∃ j, j < m ∧ d[j]! = x := by
  induction m with
  | zero => simp [Go.Lib.compactUpTo]
  | succ m ih =>
    rw [Go.Lib.compactUpTo_succ, List.mem_append, ih]
    constructor
    · rintro (⟨j, hj, e⟩ | h)
      · exact ⟨j, by omega, e⟩
      · split at h
        · exact ⟨m, by omega, (List.mem_singleton.1 h).symm⟩
        · cases h
    · rintro ⟨j, hj, e⟩
      rcases Nat.lt_or_ge j m with h | h
      · exact .inl ⟨j, h, e⟩
      · obtain rfl : j = m := by omega
        by_cases hk : Go.Lib.keeps d j = true
        · rw [if_pos hk]
          exact .inr (by simp [e])
        · unfold Go.Lib.keeps at hk
          simp only [decide_eq_true_eq, not_or, Decidable.not_not] at hk
          exact .inl ⟨j - 1, by omega, by rw [← hk.2]; exact e⟩
theorem upTo_strict (d : Array Int) (m : Nat) (h : ∀ i j, i ≤ j → j < m → d[i]! ≤ d[j]!) : (Go.Lib.compactUpTo d m).Pairwise (· < ·) := by
  induction m with
  | zero => simp [Go.Lib.compactUpTo]
  | succ m ih =>
    rw [Go.Lib.compactUpTo_succ]
    split
    · rename_i hk
      rw [List.pairwise_append]
      refine ⟨ih (fun i j h1 h2 => h i j h1 (by omega)), List.pairwise_singleton _ _, fun x hx y hy => ?_⟩
      rw [List.mem_singleton] at hy
      subst hy
      obtain ⟨j, hj, rfl⟩ := (upTo_mem d m x).1 hx
      unfold Go.Lib.keeps at hk
      simp only [decide_eq_true_eq] at hk
      have g1 := h j (m - 1) (by omega) (by omega)
      have g2 := h (m - 1) m (by omega) (by omega)
      rcases hk with hk | hk
      · omega
      · omega
    · rw [List.append_nil]
      exact ih (fun i j h1 h2 => h i j h1 (by omega))
theorem compact_sorted (l : List Int) : (Go.Lib.compact (l.mergeSort fun x y => decide (x ≤ y))).Pairwise (· < ·) ∧ ∀ x, x ∈ Go.Lib.compact (l.mergeSort fun x y => decide (x ≤ y)) ↔ x ∈ l := by
  have hs : (l.mergeSort fun x y => decide (x ≤ y)).Pairwise fun x y => decide (x ≤ y) = true := List.pairwise_mergeSort (fun a b c h1 h2 => by simp only [decide_eq_true_eq] at *; omega) (fun a b => by simp only [Bool.or_eq_true, decide_eq_true_eq]; omega) l
  have hm : ∀ x, x ∈ (l.mergeSort fun x y => decide (x ≤ y)) ↔ x ∈ l := fun x => List.mem_mergeSort
  generalize (l.mergeSort fun x y => decide (x ≤ y)) = s at hs hm
  unfold Go.Lib.compact
  have hg : ∀ i, i < s.length → s.toArray[i]! = s.getD i 0 := fun i hi => by
    rw [getElem!_pos s.toArray i (by simpa using hi), getD_get s i 0 hi]
    rfl
  constructor
  · refine upTo_strict _ _ fun i j h1 h2 => ?_
    rw [hg i (by omega), hg j h2, getD_get s i 0 (by omega), getD_get s j 0 h2]
    rcases Nat.lt_or_ge i j with h3 | h3
    · have := List.pairwise_iff_getElem.1 hs i j (by omega) h2 h3
      simpa using this
    · obtain rfl : i = j := by omega
      exact Int.le_refl _
  · intro x
    rw [upTo_mem, ← hm x]
    constructor
    · rintro ⟨j, hj, rfl⟩
      rw [hg j hj]
      exact getD_mem s j 0 hj
    · intro hx
      obtain ⟨j, hj, e⟩ := List.getElem_of_mem hx
      exact ⟨j, hj, by rw [hg j hj, getD_get s j 0 hj]; exact e⟩
def whoIs (kind sub val now age : Int) (x : S54) : Bool := decide (x.f0 = kind) && (decide (x.f1 = sub) && (decide (x.f2 = val) && holds x.f0 x.f1 x.f2 x.f3 x.f4 x.f5 now age))
def whoRaw (l : List S54) (kind sub val now age : Int) : List Int := (l.filter (whoIs kind sub val now age)).map fun x => x.f3
def who (l : List S54) (kind sub val now age : Int) : List Int := Go.Lib.compact ((whoRaw l kind sub val now age).mergeSort fun x y => decide (x ≤ y))
theorem raw_step (l : List S54) (kind sub val now age : Int) (i : Nat) (hi : i < l.length) : whoRaw (l.take (i + 1)) kind sub val now age = if whoIs kind sub val now age (l.getD i z54) = true then whoRaw (l.take i) kind sub val now age ++ [(l.getD i z54).f3] else whoRaw (l.take i) kind sub val now age := by
  unfold whoRaw
  rw [List.take_succ_eq_append_getElem hi, List.filter_append, List.map_append, getD_get l i _ hi]
  by_cases h : whoIs kind sub val now age l[i] = true
  · rw [if_pos h]
    simp [h]
  · rw [if_neg h]
    simp [h]
theorem who2 (l : List S54) (kind sub val now age : Int) (hl : l.length ≤ 1048576) (k : Nat) (hk : 1048577 < k) : impl_WhoState.f k l kind sub val now age = some (who l kind sub val now age) := by
  unfold impl_WhoState.f
  refine run (fun k s i => impl_WhoState.l0 k kind sub val now age s l (l.length : Int) i) (fun i => whoRaw (l.take i) kind sub val now age) l.length 0 _ ?_ ?_ k (by omega)
  · intro k i _ hi
    have hlen : (whoRaw (l.take i) kind sub val now age).length ≤ i := by
      unfold whoRaw
      rw [List.length_map]
      exact Nat.le_trans (List.length_filter_le _ _) (by simp; omega)
    simp only [impl_WhoState.l0, rdT54, holds2, Option.bind_some]
    rw [if_pos (by omega), if_pos (by omega), if_pos (by omega), wrap_succ hi (by omega), raw_step l kind sub val now age i hi]
    generalize l.getD i z54 = x
    unfold whoIs
    by_cases h0 : x.f0 = kind
    · by_cases h1 : x.f1 = sub
      · by_cases h2 : x.f2 = val
        · rw [if_pos h0, if_pos h1, if_pos h2, decide_eq_true h0, decide_eq_true h1, decide_eq_true h2]
          simp only [Bool.true_and]
          by_cases h3 : holds x.f0 x.f1 x.f2 x.f3 x.f4 x.f5 now age = true
          · rw [if_pos h3, if_pos h3, if_pos (by omega)]
          · rw [if_neg h3, if_neg h3]
        · rw [if_pos h0, if_pos h1, if_neg h2, decide_eq_false h2]
          simp
      · rw [if_pos h0, if_neg h1, decide_eq_false h1]
        simp
    · rw [if_neg h0, decide_eq_false h0]
      simp
  · intro k _
    simp only [impl_WhoState.l0]
    have hlen : (whoRaw (l.take l.length) kind sub val now age).length ≤ l.length := by
      unfold whoRaw
      rw [List.length_map]
      exact Nat.le_trans (List.length_filter_le _ _) (by simp)
    rw [if_neg (by omega), slices_Sort_int_int.f, if_pos (by omega), Option.bind_some, slices_Compact_int_int.f, Option.bind_some, List.take_length]
    rfl
def hasId (l : List S54) (kind sub val now age : Int) (id : Int) : Bool := l.any fun x => decide (x.f3 = id) && whoIs kind sub val now age x
def whoUp (l : List S54) (kind sub val now age : Int) (n : Nat) : List Int := ((List.range n).filter fun (i : Nat) => hasId l kind sub val now age (i : Int)).map fun (i : Nat) => (i : Int)
theorem whoUp_step (l : List S54) (kind sub val now age : Int) (n : Nat) : whoUp l kind sub val now age (n + 1) = if hasId l kind sub val now age (n : Int) = true then whoUp l kind sub val now age n ++ [(n : Int)] else whoUp l kind sub val now age n := by
  unfold whoUp
  rw [List.range_succ, List.filter_append, List.map_append]
  by_cases h : hasId l kind sub val now age (n : Int) = true
  · rw [if_pos h]
    simp [h]
  · rw [if_neg h]
    simp [h]
theorem whoUp_eq (l : List S54) (kind sub val now age : Int) : whoUp l kind sub val now age 10 = who l kind sub val now age := by
  obtain ⟨h1, h2⟩ := compact_sorted (whoRaw l kind sub val now age)
  refine strict_ext _ _ ?_ h1 fun x => ?_
  · unfold whoUp
    rw [List.pairwise_map]
    refine List.Pairwise.filter _ (List.pairwise_lt_range.imp fun h => ?_)
    omega
  · unfold who
    rw [h2 x]
    unfold whoUp whoRaw
    simp only [List.mem_map, List.mem_filter, List.mem_range]
    constructor
    · rintro ⟨i, ⟨_, h⟩, rfl⟩
      unfold hasId at h
      rw [List.any_eq_true] at h
      obtain ⟨y, hy, g⟩ := h
      simp only [Bool.and_eq_true, decide_eq_true_eq] at g
      exact ⟨y, ⟨hy, g.2⟩, g.1⟩
    · rintro ⟨y, ⟨hy, g⟩, rfl⟩
      have g' := g
      unfold whoIs holds isFact at g'
      simp only [Bool.and_eq_true, decide_eq_true_eq] at g'
      obtain ⟨_, _, _, ⟨_, ⟨b0, b1⟩, _⟩, _⟩ := g'
      refine ⟨y.f3.toNat, ⟨by omega, ?_⟩, by omega⟩
      unfold hasId
      rw [List.any_eq_true]
      refine ⟨y, hy, ?_⟩
      rw [g, Bool.and_true, decide_eq_true_eq]
      omega
theorem who_length (l : List S54) (kind sub val now age : Int) : (who l kind sub val now age).length ≤ 10 := by
  rw [← whoUp_eq]
  unfold whoUp
  rw [List.length_map]
  exact Nat.le_trans (List.length_filter_le _ _) (by simp)
def accepted (l : List S54) (kind sub val now age least : Int) : Bool := decide (((who l kind sub val now age).length : Int) ≥ least)
theorem accepted2 (l : List S54) (kind sub val now age least : Int) (hl : l.length ≤ 1048576) (k : Nat) (hk : 10485800 < k) : impl_IsAccepted.f k l kind sub val now age least = some (accepted l kind sub val now age least) := by
  unfold impl_IsAccepted.f
  rw [who2 l kind sub val now age hl k (by omega), Option.bind_some]
  rfl
theorem wrap_small (d : Nat) (t : Int) (h : t + (d + 1 : Nat) = 10000) (h0 : 0 ≤ t) : wrap64 (t + 1) = t + 1 := wrap_in (by omega) (by omega)
def untilFrom (acc : Int → Bool) : Nat → Int → Int
  | 0, t => t
  | d + 1, t => if acc (t + 1) = true then untilFrom acc d (t + 1) else t
theorem until_all (acc : Int → Bool) (h : ∀ t, acc t = true) (d : Nat) : ∀ t, untilFrom acc d t = t + d := by
  induction d with
  | zero => intro t; simp [untilFrom]
  | succ d ih =>
    intro t
    rw [untilFrom, if_pos (h _), ih]
    omega
theorem untilLoop2 (l : List S54) (kind sub val age least : Int) (hl : l.length ≤ 1048576) (d : Nat) : ∀ (t : Int) (k : Nat), 0 ≤ t → t + d = 10000 → d + 10485900 < k → impl_AcceptedUntil.l0 k l kind sub val t age least = some (untilFrom (fun t => accepted l kind sub val t age least) d t) := by
  induction d with
  | zero =>
    intro t k h0 ht hk
    obtain ⟨k, rfl⟩ : ∃ m, k = m + 1 := ⟨k - 1, by omega⟩
    simp only [impl_AcceptedUntil.l0]
    rw [if_neg (by omega)]
    rfl
  | succ d ih =>
    intro t k h0 ht hk
    obtain ⟨k, rfl⟩ : ∃ m, k = m + 1 := ⟨k - 1, by omega⟩
    simp only [impl_AcceptedUntil.l0]
    rw [if_pos (by omega), wrap_small d t ht h0, accepted2 l kind sub val (t + 1) age least hl k (by omega), Option.bind_some, ih (t + 1) k (by omega) (by omega) (by omega), untilFrom]
    split <;> rfl
def untilOf (l : List S54) (kind sub val now age least : Int) : Int := if timeOk now = true then if accepted l kind sub val now age least = true then untilFrom (fun t => accepted l kind sub val t age least) (10000 - now).toNat now else -1 else -1
theorem until2 (l : List S54) (kind sub val now age least : Int) (hl : l.length ≤ 1048576) (k : Nat) (hk : 20000000 < k) : impl_AcceptedUntil.f k l kind sub val now age least = some (untilOf l kind sub val now age least) := by
  obtain ⟨k, rfl⟩ : ∃ m, k = m + 1 := ⟨k - 1, by omega⟩
  unfold impl_AcceptedUntil.f untilOf
  rw [time2, Option.bind_some]
  by_cases h : timeOk now = true
  · have h' := of_decide_eq_true (show decide (0 ≤ now ∧ now ≤ 10000) = true from h)
    rw [if_pos h, if_pos h, accepted2 l kind sub val now age least hl (k + 1) (by omega), Option.bind_some]
    simp only [impl_AcceptedUntil.j0]
    by_cases g : accepted l kind sub val now age least = true
    · rw [if_pos g, g, if_neg (by simp), untilLoop2 l kind sub val age least hl (10000 - now).toNat now k h'.1 (by omega) (by omega)]
    · rw [if_neg g, Bool.eq_false_iff.2 g, if_pos (by simp)]
  · rw [if_neg h, if_neg h]
    simp only [impl_AcceptedUntil.j0]
    rw [if_pos trivial]
def endOf (a s : Int) : Int := if timeOk a = true then (if timeOk s = true then (if a + s < 10000 then a + s else 10000) else 0) else 0
theorem endOf2 (a s : Int) : impl_EndOf.f a s = some (endOf a s) := by
  simp only [impl_EndOf.f, time2, in2, Option.bind_some]
  unfold endOf
  by_cases h1 : timeOk a = true
  · rw [if_pos h1, if_pos h1]
    by_cases h2 : timeOk s = true
    · rw [if_pos h2, if_pos (by unfold timeOk at h2; exact h2)]
      unfold timeOk at h1 h2
      have g1 := of_decide_eq_true h1
      have g2 := of_decide_eq_true h2
      rw [wrap_in (by omega) (by omega)]
      unfold mn
      by_cases h : a + s < 10000
      · rw [if_neg (by omega), if_pos h]
      · rw [if_neg h]
        split
        · rfl
        · congr 1; omega
    · rw [if_neg h2, if_neg (by unfold timeOk at h2; exact h2)]
  · rw [if_neg h1, if_neg h1]
theorem and255 (x : Int) : 0 ≤ Go.bits .and .i64 x 255 ∧ Go.bits .and .i64 x 255 ≤ 255 := by
  unfold Go.bits
  simp only
  have h : (BitVec.ofInt IntKind.i64.bits x &&& BitVec.ofInt IntKind.i64.bits 255).toNat ≤ 255 := by
    rw [BitVec.toNat_and]
    exact Nat.le_trans Nat.and_le_right (by decide)
  rw [IntKind.wrap_i64]
  omega
/-- What a draw gives: something, and the place is still one of the list. -/
def Drawn {α : Type} (l : List Int) (r : Option (α × Int × Int)) (Q : α → Prop) : Prop := ∃ v i h, r = some (v, i, h) ∧ Q v ∧ 0 ≤ i ∧ i ≤ (l.length : Int)
theorem dByte (l : List Int) (hl : l.length ≤ 1048576) (i h : Int) (h0 : 0 ≤ i) (h1 : i ≤ (l.length : Int)) : Drawn l (spec_l1Byte.f l i h) fun v => 0 ≤ v ∧ v ≤ 255 := by
  unfold spec_l1Byte.f
  by_cases c : i < (l.length : Int)
  · rw [if_pos c, if_pos h0, wrap_in (x := i + 1) (by omega) (by omega)]
    exact ⟨_, _, _, rfl, and255 _, by omega, by omega⟩
  · rw [if_neg c]
    exact ⟨_, _, _, rfl, and255 _, by omega, by omega⟩
theorem dBelow (l : List Int) (hl : l.length ≤ 1048576) (i h : Int) (h0 : 0 ≤ i) (h1 : i ≤ (l.length : Int)) (n : Int) (hn : 0 < n) : Drawn l (spec_l1Below.f l i h n) fun v => 0 ≤ v ∧ v < n := by
  unfold spec_l1Below.f
  rw [if_neg (by omega)]
  by_cases c : n ≤ 256
  · rw [if_pos c]
    obtain ⟨v, i1, s1, e, ⟨g0, _⟩, p0, p1⟩ := dByte l hl i h h0 h1
    rw [e, Option.bind_some, if_neg (by omega)]
    exact ⟨_, _, _, rfl, ⟨Int.tmod_nonneg _ g0, Int.tmod_lt_of_pos _ hn⟩, p0, p1⟩
  · rw [if_neg c]
    obtain ⟨v, i1, s1, e, ⟨g0, g1⟩, p0, p1⟩ := dByte l hl i h h0 h1
    obtain ⟨v2, i2, s2, e2, ⟨g2, g3⟩, p2, p3⟩ := dByte l hl i1 s1 p0 p1
    obtain ⟨v3, i3, s3, e3, ⟨g4, g5⟩, p4, p5⟩ := dByte l hl i2 s2 p2 p3
    simp only [e, e2, e3, Option.bind_some]
    rw [if_neg (by omega), wrap_in (x := v * 65536) (by omega) (by omega), wrap_in (x := v2 * 256) (by omega) (by omega), wrap_in (x := v * 65536 + v2 * 256) (by omega) (by omega), wrap_in (by omega) (by omega)]
    exact ⟨_, _, _, rfl, ⟨Int.tmod_nonneg _ (by omega), Int.tmod_lt_of_pos _ hn⟩, p4, p5⟩
theorem dOnce (l : List Int) (hl : l.length ≤ 1048576) (i h : Int) (h0 : 0 ≤ i) (h1 : i ≤ (l.length : Int)) (n : Int) (hn : 0 < n) : Drawn l (spec_l1Once.f l i h n) fun _ => True := by
  unfold spec_l1Once.f
  obtain ⟨v, i1, s1, e, _, p0, p1⟩ := dBelow l hl i h h0 h1 n hn
  rw [e, Option.bind_some]
  exact ⟨_, _, _, rfl, trivial, p0, p1⟩
theorem dInt (l : List Int) (hl : l.length ≤ 1048576) (i h : Int) (h0 : 0 ≤ i) (h1 : i ≤ (l.length : Int)) (c : List Int) (hc : 0 < c.length) : Drawn l (spec_l1Int.f l i h c) fun v => v ∈ c := by
  unfold spec_l1Int.f
  obtain ⟨v, i1, s1, e, ⟨g0, g1⟩, p0, p1⟩ := dBelow l hl i h h0 h1 (c.length : Int) (by omega)
  rw [e, Option.bind_some, if_pos g0, if_pos g1]
  refine ⟨_, _, _, rfl, ?_, p0, p1⟩
  unfold rd
  exact getD_mem c _ 0 (by omega)
def seedOf (l : List Int) : Nat → Int
  | 0 => wrap64 (193017 + (l.length : Int))
  | i + 1 => Go.bits .and .i64 (wrap64 ((wrap64 ((wrap64 (seedOf l i * 137)) + (wrap64 (l.getD i 0)))) + 11)) 1073741823
theorem new1 (l : List Int) (hl : l.length ≤ 1048576) (k : Nat) (hk : 1048577 < k) : spec_l1New.f k l = some (l, 0, seedOf l (min l.length 4000)) := by
  unfold spec_l1New.f
  refine run (fun k s i => spec_l1New.l0 k l s i) (seedOf l) (min l.length 4000) 0 _ ?_ ?_ k (by omega)
  · intro k i _ hi
    simp only [spec_l1New.l0, rd_nat]
    rw [if_pos (by omega), if_pos (by omega), if_pos (by omega), wrap_succ hi (by omega)]
    rfl
  · intro k _
    simp only [spec_l1New.l0]
    by_cases c : l.length < 4000
    · rw [Nat.min_eq_left (by omega), if_neg (by omega)]
    · rw [Nat.min_eq_right (by omega)]
      split
      · rw [if_neg (by omega)]
      · rfl
theorem dName (l : List Int) (hl : l.length ≤ 1048576) (i h : Int) (h0 : 0 ≤ i) (h1 : i ≤ (l.length : Int)) (a : Int) : Drawn l (spec_l5Name.f l i h a) fun _ => True := by
  unfold spec_l5Name.f
  obtain ⟨v, i1, s1, e, _, p0, p1⟩ := dBelow l hl i h h0 h1 3 (by omega)
  rw [e, Option.bind_some]
  exact ⟨_, _, _, rfl, trivial, p0, p1⟩
theorem dAny (l : List Int) (hl : l.length ≤ 1048576) (i h : Int) (h0 : 0 ≤ i) (h1 : i ≤ (l.length : Int)) : Drawn l (spec_l5Any.f l i h) fun _ => True := by
  unfold spec_l5Any.f
  obtain ⟨v, i1, s1, e, _, p0, p1⟩ := dOnce l hl i h h0 h1 6 (by omega)
  rw [e, Option.bind_some]
  by_cases c : v = true
  · rw [if_pos c]
    obtain ⟨v2, i2, s2, e2, _, p2, p3⟩ := dInt l hl i1 s1 p0 p1 [(-1), 9, 10, 49, 50, 19] (by simp)
    simp only [e2, Option.bind_some]
    exact ⟨_, _, _, rfl, trivial, p2, p3⟩
  · rw [if_neg c]
    obtain ⟨v2, i2, s2, e2, _, p2, p3⟩ := dBelow l hl i1 s1 p0 p1 4 (by omega)
    simp only [e2, Option.bind_some]
    obtain ⟨v3, i3, s3, e3, _, p4, p5⟩ := dName l hl i2 s2 p2 p3 (wrap64 (1 + v2))
    simp only [e3, Option.bind_some]
    exact ⟨_, _, _, rfl, trivial, p4, p5⟩
theorem dTime (l : List Int) (hl : l.length ≤ 1048576) (i h : Int) (h0 : 0 ≤ i) (h1 : i ≤ (l.length : Int)) : Drawn l (spec_l4Time.f l i h) fun _ => True := by
  unfold spec_l4Time.f
  obtain ⟨v, i1, s1, e, _, p0, p1⟩ := dOnce l hl i h h0 h1 8 (by omega)
  rw [e, Option.bind_some]
  by_cases c : v = true
  · rw [if_pos c]
    obtain ⟨v2, i2, s2, e2, _, p2, p3⟩ := dInt l hl i1 s1 p0 p1 [(-1), 0, 10000, 10001, 9223372036854775807, (-9223372036854775808)] (by simp)
    simp only [e2, Option.bind_some]
    exact ⟨_, _, _, rfl, trivial, p2, p3⟩
  · rw [if_neg c]
    obtain ⟨v2, i2, s2, e2, _, p2, p3⟩ := dBelow l hl i1 s1 p0 p1 40 (by omega)
    simp only [e2, Option.bind_some]
    exact ⟨_, _, _, rfl, trivial, p2, p3⟩
def DrawnF (l : List Int) (r : Option (Int × Int × Int × Int × Int × Int × Int × Int)) : Prop := ∃ a b c d e f i h, r = some (a, b, c, d, e, f, i, h) ∧ 0 ≤ i ∧ i ≤ (l.length : Int)
theorem dFact (l : List Int) (hl : l.length ≤ 1048576) (i h : Int) (h0 : 0 ≤ i) (h1 : i ≤ (l.length : Int)) : DrawnF l (spec_l6Fact.f l i h) := by
  unfold spec_l6Fact.f
  obtain ⟨v, i, h, e, _, h0, h1⟩ := dBelow l hl i h h0 h1 4 (by omega)
  simp only [e, Option.bind_some]
  clear e
  obtain ⟨v2, i, h, e, _, h0, h1⟩ := dBelow l hl i h h0 h1 3 (by omega)
  simp only [e, Option.bind_some]
  clear e
  obtain ⟨v3, i, h, e, _, h0, h1⟩ := dBelow l hl i h h0 h1 20 (by omega)
  simp only [e, Option.bind_some]
  clear e
  obtain ⟨v4, i, h, e, _, h0, h1⟩ := dBelow l hl i h h0 h1 30 (by omega)
  simp only [e, Option.bind_some]
  clear e
  generalize wrap64 (1 + v) = q
  by_cases c1 : q = 1
  · rw [if_pos c1]
    obtain ⟨v5, i, h, e, _, h0, h1⟩ := dName l hl i h h0 h1 1
    simp only [e, Option.bind_some]
    clear e
    obtain ⟨v6, i, h, e, _, h0, h1⟩ := dBelow l hl i h h0 h1 4 (by omega)
    simp only [e, Option.bind_some]
    exact ⟨_, _, _, _, _, _, _, _, rfl, h0, h1⟩
  rw [if_neg c1]
  by_cases c2 : q = 2
  · rw [if_pos c2]
    obtain ⟨v5, i, h, e, _, h0, h1⟩ := dName l hl i h h0 h1 1
    simp only [e, Option.bind_some]
    clear e
    obtain ⟨v6, i, h, e, _, h0, h1⟩ := dName l hl i h h0 h1 2
    simp only [e, Option.bind_some]
    exact ⟨_, _, _, _, _, _, _, _, rfl, h0, h1⟩
  rw [if_neg c2]
  by_cases c3 : q = 3
  · rw [if_pos c3]
    obtain ⟨v5, i, h, e, _, h0, h1⟩ := dName l hl i h h0 h1 2
    simp only [e, Option.bind_some]
    clear e
    obtain ⟨v6, i, h, e, _, h0, h1⟩ := dBelow l hl i h h0 h1 4 (by omega)
    simp only [e, Option.bind_some]
    exact ⟨_, _, _, _, _, _, _, _, rfl, h0, h1⟩
  rw [if_neg c3]
  obtain ⟨v5, i, h, e, _, h0, h1⟩ := dName l hl i h h0 h1 3
  simp only [e, Option.bind_some]
  clear e
  obtain ⟨v6, i, h, e, _, h0, h1⟩ := dBelow l hl i h h0 h1 4 (by omega)
  simp only [e, Option.bind_some]
  exact ⟨_, _, _, _, _, _, _, _, rfl, h0, h1⟩
theorem dAnyFact (l : List Int) (hl : l.length ≤ 1048576) (i h : Int) (h0 : 0 ≤ i) (h1 : i ≤ (l.length : Int)) : DrawnF l (spec_l6Any.f l i h) := by
  unfold spec_l6Any.f
  obtain ⟨a, b, c, d, x, f, i, h, e, h0, h1⟩ := dFact l hl i h h0 h1
  simp only [e, Option.bind_some]
  clear e
  obtain ⟨v, i, h, e, _, h0, h1⟩ := dBelow l hl i h h0 h1 12 (by omega)
  simp only [e, Option.bind_some]
  clear e
  by_cases c0 : v = 0
  · rw [if_pos c0]
    obtain ⟨v2, i, h, e, _, h0, h1⟩ := dBelow l hl i h h0 h1 6 (by omega)
    simp only [e, Option.bind_some]
    exact ⟨_, _, _, _, _, _, _, _, rfl, h0, h1⟩
  rw [if_neg c0]
  by_cases c1 : v = 1
  · rw [if_pos c1]
    obtain ⟨v2, i, h, e, _, h0, h1⟩ := dAny l hl i h h0 h1
    simp only [e, Option.bind_some]
    exact ⟨_, _, _, _, _, _, _, _, rfl, h0, h1⟩
  rw [if_neg c1]
  by_cases c2 : v = 2
  · rw [if_pos c2]
    obtain ⟨v2, i, h, e, _, h0, h1⟩ := dInt l hl i h h0 h1 [(-1), 3, 4, 5, 6, 20] (by simp)
    simp only [e, Option.bind_some]
    exact ⟨_, _, _, _, _, _, _, _, rfl, h0, h1⟩
  rw [if_neg c2]
  by_cases c3 : v = 3
  · rw [if_pos c3]
    obtain ⟨v2, i, h, e, _, h0, h1⟩ := dInt l hl i h h0 h1 [(-1), 9, 10] (by simp)
    simp only [e, Option.bind_some]
    exact ⟨_, _, _, _, _, _, _, _, rfl, h0, h1⟩
  rw [if_neg c3]
  by_cases c4 : v = 4
  · rw [if_pos c4]
    obtain ⟨v2, i, h, e, _, h0, h1⟩ := dTime l hl i h h0 h1
    simp only [e, Option.bind_some]
    exact ⟨_, _, _, _, _, _, _, _, rfl, h0, h1⟩
  rw [if_neg c4]
  by_cases c5 : v = 5
  · rw [if_pos c5]
    obtain ⟨v2, i, h, e, _, h0, h1⟩ := dTime l hl i h h0 h1
    simp only [e, Option.bind_some]
    exact ⟨_, _, _, _, _, _, _, _, rfl, h0, h1⟩
  rw [if_neg c5]
  exact ⟨_, _, _, _, _, _, _, _, rfl, h0, h1⟩
theorem beforeTot (a b c d e f a' b' c' d' e' f' : Int) : ∃ t, spec_FactBefore.f a b c d e f a' b' c' d' e' f' = some t := by
  unfold spec_FactBefore.f
  repeat' split
  all_goals exact ⟨_, rfl⟩
theorem sameTot (a b c d e f a' b' c' d' e' f' : Int) : ∃ t, spec_SameClaim.f a b c d e f a' b' c' d' e' f' = some t := by
  unfold spec_SameClaim.f
  repeat' split
  all_goals exact ⟨_, rfl⟩
theorem storeTot (l : List S54) (hl : l.length ≤ 30) (d : Nat) : ∀ (i k : Nat), i + d = l.length → d < k → ∃ t, spec_IsStore.l0 k l (i : Int) = some t := by
  induction d with
  | zero =>
    intro i k hi hk
    obtain ⟨k, rfl⟩ : ∃ m, k = m + 1 := ⟨k - 1, by omega⟩
    simp only [spec_IsStore.l0]
    rw [if_neg (by omega)]
    exact ⟨_, rfl⟩
  | succ d ih =>
    intro i k hi hk
    obtain ⟨k, rfl⟩ : ∃ m, k = m + 1 := ⟨k - 1, by omega⟩
    obtain ⟨t, e⟩ := ih (i + 1) k (by omega) (by omega)
    simp only [spec_IsStore.l0, fact1, Option.bind_some]
    rw [if_pos (by omega), if_pos (by omega), wrap_succ (show i < l.length by omega) (by omega), e]
    split
    · rcases Nat.eq_zero_or_pos i with h0 | h0
      · rw [if_neg (by omega)]
        exact ⟨_, rfl⟩
      · rw [if_pos (by omega), wrap_pred h0 (show i < l.length by omega) (by omega), if_pos (by omega), if_pos (by omega)]
        obtain ⟨u, e2⟩ := beforeTot (rd_T54 l ((i - 1 : Nat) : Int)).f0 (rd_T54 l ((i - 1 : Nat) : Int)).f1 (rd_T54 l ((i - 1 : Nat) : Int)).f2 (rd_T54 l ((i - 1 : Nat) : Int)).f3 (rd_T54 l ((i - 1 : Nat) : Int)).f4 (rd_T54 l ((i - 1 : Nat) : Int)).f5 (rd_T54 l (i : Int)).f0 (rd_T54 l (i : Int)).f1 (rd_T54 l (i : Int)).f2 (rd_T54 l (i : Int)).f3 (rd_T54 l (i : Int)).f4 (rd_T54 l (i : Int)).f5
        rw [e2, Option.bind_some]
        split <;> exact ⟨_, rfl⟩
    · exact ⟨_, rfl⟩
theorem copyFact (l : List S54) (hl : l.length ≤ 1000) : spec_l7Copy.f l = some l := by
  unfold spec_l7Copy.f
  rw [Option.bind_some, if_pos (by simp; omega), List.nil_append]
theorem putLoop (l : List S54) (hl : l.length ≤ 30) (a b c d e f : Int) (n : Nat) : ∀ (i : Nat) (out : List S54) (seen : Bool) (k : Nat), i + n = l.length → out.length ≤ 2 * i → 3 * n + 2 < k → ∃ o q, spec_PutFact.l0 k l out seen (i : Int) a b c d e f = some (o, q) ∧ o.length ≤ 30 := by
  induction n with
  | zero =>
    intro i out seen k hi ho hk
    obtain ⟨k, rfl⟩ : ∃ m, k = m + 1 := ⟨k - 1, by omega⟩
    simp only [spec_PutFact.l0, copyFact l (by omega), Option.bind_some]
    rw [if_neg (by omega)]
    cases seen with
    | true =>
      rw [if_pos rfl]
      split
      · exact ⟨_, _, rfl, hl⟩
      · exact ⟨_, _, rfl, by omega⟩
    | false =>
      rw [if_neg (by simp), if_pos (by omega)]
      split
      · exact ⟨_, _, rfl, hl⟩
      · exact ⟨_, _, rfl, by omega⟩
  | succ n ih =>
    intro i out seen k hi ho hk
    obtain ⟨k, rfl⟩ : ∃ m, k = m + 1 + 1 + 1 := ⟨k - 3, by omega⟩
    have hw := wrap_succ (show i < l.length by omega) (by omega)
    have I : ∀ (o : List S54) s, o.length ≤ 2 * i + 2 → ∃ o' q, spec_PutFact.l0 k l o s ((i + 1 : Nat) : Int) a b c d e f = some (o', q) ∧ o'.length ≤ 30 := fun o s h => ih (i + 1) o s k (by omega) (by omega) (by omega)
    have J3 : ∀ (o : List S54) s, o.length ≤ 2 * i + 1 → ∃ o' q, spec_PutFact.j3 (k + 1) l o s (i : Int) a b c d e f = some (o', q) ∧ o'.length ≤ 30 := by
      intro o s h
      obtain ⟨t, et⟩ := sameTot a b c d e f (rd_T54 l (i : Int)).f0 (rd_T54 l (i : Int)).f1 (rd_T54 l (i : Int)).f2 (rd_T54 l (i : Int)).f3 (rd_T54 l (i : Int)).f4 (rd_T54 l (i : Int)).f5
      have L : (o.length < 2932031007402) = True := eq_true (by omega)
      simp only [spec_PutFact.j3, et, Option.bind_some, hw, L, if_true]
      rw [if_pos (by omega), if_pos (by omega)]
      have I1 : ∀ x s, ∃ o' q, spec_PutFact.l0 k l (o ++ [x]) s ((i + 1 : Nat) : Int) a b c d e f = some (o', q) ∧ o'.length ≤ 30 := fun x s => I _ s (by rw [List.length_append]; simp; omega)
      repeat' split
      all_goals exact I1 _ _
    have J2 : ∀ t, ∃ o' q, spec_PutFact.j2 (k + 1 + 1) l out seen (i : Int) t a b c d e f = some (o', q) ∧ o'.length ≤ 30 := by
      intro t
      have L : (out.length < 2932031007402) = True := eq_true (by omega)
      simp only [spec_PutFact.j2, L, if_true]
      split
      · exact J3 _ _ (by rw [List.length_append]; simp; omega)
      · exact J3 _ _ (by omega)
    obtain ⟨t, et⟩ := beforeTot a b c d e f (rd_T54 l (i : Int)).f0 (rd_T54 l (i : Int)).f1 (rd_T54 l (i : Int)).f2 (rd_T54 l (i : Int)).f3 (rd_T54 l (i : Int)).f4 (rd_T54 l (i : Int)).f5
    simp only [spec_PutFact.l0, et, Option.bind_some]
    rw [if_pos (by omega)]
    split
    · exact J2 _
    · rw [if_pos (by omega)]
      exact J2 _
theorem putTot (l : List S54) (hl : l.length ≤ 30) (a b c d e f : Int) (k : Nat) (hk : 200 < k) : ∃ o q, spec_PutFact.f k l a b c d e f = some (o, q) ∧ o.length ≤ 30 := by
  obtain ⟨k, rfl⟩ : ∃ m, k = m + 1 := ⟨k - 1, by omega⟩
  have J : ∀ t, ∃ o q, spec_PutFact.j0 (k + 1) l t a b c d e f = some (o, q) ∧ o.length ≤ 30 := by
    intro t
    simp only [spec_PutFact.j0, copyFact l (by omega), Option.bind_some]
    split
    · exact ⟨_, _, rfl, hl⟩
    · exact putLoop l hl a b c d e f l.length 0 [] false k (by omega) (by simp) (by omega)
  obtain ⟨t, et⟩ := storeTot l hl l.length 0 (k + 1) (by omega) (by omega)
  unfold spec_PutFact.f spec_IsStore.f
  rw [show (0 : Int) = ((0 : Nat) : Int) from rfl, et, Option.bind_some, fact1, Option.bind_some]
  split <;> exact J _
theorem store_loop (l : List Int) (hl : l.length ≤ 1048576) (d : Nat) : ∀ (out : List S54) (k : Nat) (i h : Int), d ≤ 1000 → 0 ≤ i → i ≤ (l.length : Int) → out.length ≤ 30 → d + 300 < k → Drawn l (spec_l7Store.l0 k out (d : Int) l i h) fun v => v.length ≤ 30 := by
  induction d with
  | zero =>
    intro out k i h _ h0 h1 ho hk
    obtain ⟨k, rfl⟩ : ∃ m, k = m + 1 := ⟨k - 1, by omega⟩
    simp only [spec_l7Store.l0]
    rw [if_neg (by omega)]
    exact ⟨_, _, _, rfl, ho, h0, h1⟩
  | succ d ih =>
    intro out k i h hd h0 h1 ho hk
    obtain ⟨k, rfl⟩ : ∃ m, k = m + 1 := ⟨k - 1, by omega⟩
    simp only [spec_l7Store.l0]
    rw [if_pos (by omega)]
    obtain ⟨a, b, c, x, y, z, i, h, e, h0, h1⟩ := dFact l hl i h h0 h1
    simp only [e, Option.bind_some]
    clear e
    obtain ⟨o, q, e, hq⟩ := putTot out ho a b c x y z k (by omega)
    simp only [e, Option.bind_some]
    clear e
    rw [wrap_in (x := ((d + 1 : Nat) : Int) - 1) (by omega) (by omega), show ((d + 1 : Nat) : Int) - 1 = (d : Int) by omega]
    exact ih o k i h (by omega) h0 h1 hq (by omega)
theorem dStore (l : List Int) (hl : l.length ≤ 1048576) (i h : Int) (h0 : 0 ≤ i) (h1 : i ≤ (l.length : Int)) (k : Nat) (hk : 1000 < k) : Drawn l (spec_l7Store.f k l i h) fun v => v.length ≤ 30 := by
  unfold spec_l7Store.f
  obtain ⟨v, i, h, e, ⟨g0, g1⟩, h0, h1⟩ := dBelow l hl i h h0 h1 10 (by omega)
  simp only [e, Option.bind_some]
  obtain ⟨n, rfl⟩ : ∃ n : Nat, v = (n : Int) := ⟨v.toNat, by omega⟩
  exact store_loop l hl n [] k i h (by omega) h0 h1 (by simp) (by omega)
theorem dFind (l : List Int) (hl : l.length ≤ 1048576) (k : Nat) (hk : 1048577 < k) : ∃ s a b c d e, spec_DrawFindFact.f k l = some (s, a, b, c, d, e) ∧ s.length ≤ 30 := by
  obtain ⟨k, rfl⟩ : ∃ m, k = m + 1 := ⟨k - 1, by omega⟩
  unfold spec_DrawFindFact.f
  rw [new1 l hl (k + 1) hk, Option.bind_some]
  obtain ⟨s, i, h, e, q, h0, h1⟩ := dStore l hl 0 (seedOf l (min l.length 4000)) (by omega) (by omega) (k + 1) (by omega)
  simp only [e, Option.bind_some]
  clear e
  obtain ⟨a, b, c, x, y, z, i, h, e, h0, h1⟩ := dFact l hl i h h0 h1
  simp only [e, Option.bind_some]
  clear e
  have J : ∀ t i h, 0 ≤ i → i ≤ (l.length : Int) → (t = true → 0 < s.length) → ∃ s' a' b' c' d' e', spec_DrawFindFact.j0 (k + 1) s t l i h a b c x y z = some (s', a', b', c', d', e') ∧ s'.length ≤ 30 := by
    intro t i h h0 h1 ht
    simp only [spec_DrawFindFact.j0]
    cases t with
    | true =>
      rw [if_pos rfl]
      obtain ⟨v, i, h, e, ⟨g0, g1⟩, h0, h1⟩ := dBelow l hl i h h0 h1 (s.length : Int) (by have := ht rfl; omega)
      simp only [e, Option.bind_some]
      clear e
      rw [if_pos g0, if_pos g1]
      obtain ⟨v2, i, h, e, _, h0, h1⟩ := dBelow l hl i h h0 h1 8 (by omega)
      simp only [e, Option.bind_some]
      clear e
      obtain ⟨v3, i, h, e, _, h0, h1⟩ := dInt l hl i h h0 h1 [0, 3, 20, (-1)] (by simp)
      simp only [e, Option.bind_some]
      exact ⟨_, _, _, _, _, _, rfl, q⟩
    | false =>
      rw [if_neg (by simp)]
      obtain ⟨v2, i, h, e, _, h0, h1⟩ := dBelow l hl i h h0 h1 8 (by omega)
      simp only [e, Option.bind_some]
      clear e
      obtain ⟨v3, i, h, e, _, h0, h1⟩ := dInt l hl i h h0 h1 [0, 3, 20, (-1)] (by simp)
      simp only [e, Option.bind_some]
      exact ⟨_, _, _, _, _, _, rfl, q⟩
  by_cases c0 : (s.length : Int) > 0
  · rw [if_pos c0]
    obtain ⟨v, i, h, e, _, h0, h1⟩ := dOnce l hl i h h0 h1 3 (by omega)
    simp only [e, Option.bind_some]
    exact J _ i h h0 h1 (fun _ => by omega)
  · rw [if_neg c0]
    exact J _ i h h0 h1 (fun h => by cases h)
theorem maxTot (a b : Int) : ∃ t, spec_Max.f a b = some t := by
  unfold spec_Max.f
  split <;> exact ⟨_, rfl⟩
theorem who_loop (l : List Int) (hl : l.length ≤ 1048576) (x9 x10 x11 x12 x13 : Int) (d : Nat) : ∀ (out : List S54) (k : Nat) (i h : Int), d ≤ 1000 → 0 ≤ i → i ≤ (l.length : Int) → out.length ≤ 30 → d + 300 < k → ∃ o, spec_DrawWhoState.l0 k out x9 x10 x11 x12 x13 (d : Int) l i h = some (o, x9, x10, x11, x12, x13) ∧ o.length ≤ 30 := by
  induction d with
  | zero =>
    intro out k i h _ h0 h1 ho hk
    obtain ⟨k, rfl⟩ : ∃ m, k = m + 1 := ⟨k - 1, by omega⟩
    simp only [spec_DrawWhoState.l0]
    rw [if_neg (by omega)]
    exact ⟨_, rfl, ho⟩
  | succ d ih =>
    intro out k i h hd h0 h1 ho hk
    obtain ⟨k, rfl⟩ : ∃ m, k = m + 1 := ⟨k - 1, by omega⟩
    simp only [spec_DrawWhoState.l0]
    rw [if_pos (by omega)]
    obtain ⟨v, i, h, e, _, h0, h1⟩ := dBelow l hl i h h0 h1 5 (by omega)
    simp only [e, Option.bind_some]
    clear e
    obtain ⟨v2, i, h, e, _, h0, h1⟩ := dBelow l hl i h h0 h1 4 (by omega)
    simp only [e, Option.bind_some]
    clear e
    obtain ⟨t, e⟩ := maxTot 0 (wrap64 (x12 - v2))
    simp only [e, Option.bind_some]
    clear e
    obtain ⟨v3, i, h, e, _, h0, h1⟩ := dBelow l hl i h h0 h1 9 (by omega)
    simp only [e, Option.bind_some]
    clear e
    obtain ⟨o, q, e, hq⟩ := putTot out ho x9 x10 x11 v t (wrap64 (x12 + v3)) k (by omega)
    simp only [e, Option.bind_some]
    clear e
    rw [wrap_in (x := ((d + 1 : Nat) : Int) - 1) (by omega) (by omega), show ((d + 1 : Nat) : Int) - 1 = (d : Int) by omega]
    split
    · exact ih o k i h (by omega) h0 h1 hq (by omega)
    · exact ih out k i h (by omega) h0 h1 ho (by omega)
theorem dWho (l : List Int) (hl : l.length ≤ 1048576) (k : Nat) (hk : 1048577 < k) : ∃ s a b c d e, spec_DrawWhoState.f k l = some (s, a, b, c, d, e) ∧ s.length ≤ 30 := by
  unfold spec_DrawWhoState.f
  obtain ⟨s, a, b, c, d, e, ee, q⟩ := dFind l hl k hk
  simp only [ee, Option.bind_some]
  clear ee
  rw [new1 l hl k hk, Option.bind_some]
  obtain ⟨v, i, h, ee, ⟨g0, g1⟩, h0, h1⟩ := dBelow l hl 0 (seedOf l (min l.length 4000)) (by omega) (by omega) 4 (by omega)
  simp only [ee, Option.bind_some]
  clear ee
  obtain ⟨n, rfl⟩ : ∃ n : Nat, v = (n : Int) := ⟨v.toNat, by omega⟩
  obtain ⟨o, eo, ho⟩ := who_loop l hl a b c d e n s k i h (by omega) h0 h1 q (by omega)
  exact ⟨o, a, b, c, d, e, eo, ho⟩
theorem dUntil (l : List Int) (hl : l.length ≤ 1048576) (k : Nat) (hk : 1048577 < k) : ∃ s a b c d e f, spec_DrawAcceptedUntil.f k l = some (s, a, b, c, d, e, f) ∧ s.length ≤ 30 := by
  unfold spec_DrawAcceptedUntil.f spec_DrawIsAccepted.f
  obtain ⟨s, a, b, c, d, e, ee, q⟩ := dWho l hl k hk
  simp only [ee, Option.bind_some]
  exact ⟨_, _, _, _, _, _, _, rfl, q⟩
theorem dLast (l : List Int) (hl : l.length ≤ 1048576) (k : Nat) (hk : 1048577 < k) : ∃ a b c d e f g, spec_DrawLastOf.f k l = some (a, b, c, d, e, f, g) := by
  unfold spec_DrawLastOf.f spec_DrawHoldsAt.f
  rw [new1 l hl k hk, Option.bind_some]
  obtain ⟨a, b, c, x, y, z, i, h, e, h0, h1⟩ := dAnyFact l hl 0 (seedOf l (min l.length 4000)) (by omega) (by omega)
  simp only [e, Option.bind_some]
  clear e
  obtain ⟨v, i, h, e, _, h0, h1⟩ := dTime l hl i h h0 h1
  simp only [e, Option.bind_some]
  clear e
  obtain ⟨v2, i, h, e, _, h0, h1⟩ := dInt l hl i h h0 h1 [0, 3, 10, 100, (-1)] (by simp)
  simp only [e, Option.bind_some]
  exact ⟨_, _, _, _, _, _, _, rfl⟩
def lastOf (a b c d e f g : Int) : Int := if isFact a b c d e f = true then (if timeOk g = true then mn f (endOf e g) else -1) else -1
theorem lastOf2 (a b c d e f g : Int) : impl_LastOf.f a b c d e f g = some (lastOf a b c d e f g) := by
  simp only [impl_LastOf.f, fact2, time2, endOf2, Option.bind_some]
  unfold lastOf
  split
  · split <;> rfl
  · rfl
theorem holds_eq (a b c d e f t g : Int) (h : isFact a b c d e f = true) (h0 : e ≤ t) (h1 : t ≤ 10000) : holds a b c d e f t g = decide (t ≤ f ∧ t - e ≤ g) := by
  have h' := h
  unfold isFact at h'
  simp only [Bool.and_eq_true] at h'
  obtain ⟨_, _, he, hf, hef⟩ := h'
  have ke := of_decide_eq_true (show decide (0 ≤ e ∧ e ≤ 10000) = true from he)
  have kt : timeOk t = true := show decide (0 ≤ t ∧ t ≤ 10000) = true from decide_eq_true (by omega)
  have ka : ageOf e t = t - e := by
    unfold ageOf
    rw [if_pos he, if_pos kt, if_neg (by omega), wrap_in (by omega) (by omega)]
  unfold holds within fresh
  rw [h, he, hf, kt, ka, decide_eq_true (show 0 ≤ t - e by omega)]
  simp only [Bool.true_and]
  rw [← Bool.decide_and]
  congr 1
  exact propext ⟨fun h => ⟨h.1.2, h.2⟩, fun h => ⟨⟨h0, h.1⟩, h.2⟩⟩
theorem last_ok (a b c d e f g : Int) (h : lastOf a b c d e f g ≥ 0) : e ≤ lastOf a b c d e f g ∧ lastOf a b c d e f g ≤ 10000 ∧ holds a b c d e f (lastOf a b c d e f g) g = true ∧ (lastOf a b c d e f g < 10000 → holds a b c d e f (lastOf a b c d e f g + 1) g = false) := by
  by_cases hF : isFact a b c d e f = true
  · by_cases hg : timeOk g = true
    · have h' := hF
      unfold isFact at h'
      simp only [Bool.and_eq_true, decide_eq_true_eq] at h'
      obtain ⟨_, _, he, hf, hef⟩ := h'
      have ke := of_decide_eq_true (show decide (0 ≤ e ∧ e ≤ 10000) = true from he)
      have kf := of_decide_eq_true (show decide (0 ≤ f ∧ f ≤ 10000) = true from hf)
      have kg := of_decide_eq_true (show decide (0 ≤ g ∧ g ≤ 10000) = true from hg)
      have hr : lastOf a b c d e f g = mn f (if e + g < 10000 then e + g else 10000) := by
        unfold lastOf endOf
        rw [if_pos hF, if_pos hg, if_pos he, if_pos hg]
      have hm : lastOf a b c d e f g ≤ f ∧ e ≤ lastOf a b c d e f g ∧ lastOf a b c d e f g - e ≤ g ∧ lastOf a b c d e f g ≤ 10000 ∧ (lastOf a b c d e f g < 10000 → lastOf a b c d e f g = f ∨ lastOf a b c d e f g = e + g) := by
        rw [hr]
        unfold mn
        split <;> split <;> omega
      obtain ⟨m1, m2, m3, m4, m5⟩ := hm
      refine ⟨m2, m4, ?_, fun hlt => ?_⟩
      · rw [holds_eq a b c d e f _ g hF m2 m4]
        exact decide_eq_true ⟨m1, m3⟩
      · rw [holds_eq a b c d e f _ g hF (by omega) (by omega)]
        have := m5 hlt
        exact decide_eq_false (by omega)
    · unfold lastOf at h
      rw [if_pos hF, if_neg hg] at h
      omega
  · unfold lastOf at h
    rw [if_neg hF] at h
    omega
theorem untilFrom_ok (acc : Int → Bool) (d : Nat) : ∀ t : Int, t + d = 10000 → acc t = true → t ≤ untilFrom acc d t ∧ untilFrom acc d t ≤ 10000 ∧ acc (untilFrom acc d t) = true ∧ (untilFrom acc d t < 10000 → acc (untilFrom acc d t + 1) = false) := by
  induction d with
  | zero =>
    intro t ht ha
    rw [untilFrom]
    exact ⟨Int.le_refl _, by omega, ha, fun h => by omega⟩
  | succ d ih =>
    intro t ht ha
    rw [untilFrom]
    by_cases h : acc (t + 1) = true
    · rw [if_pos h]
      obtain ⟨h1, h2, h3, h4⟩ := ih (t + 1) (by omega) h
      exact ⟨by omega, h2, h3, h4⟩
    · rw [if_neg h]
      exact ⟨Int.le_refl _, by omega, ha, fun _ => Bool.eq_false_iff.2 h⟩
theorem agreeEnd (l : List Int) (hl : l.length ≤ 1048576) (x7 x9 x10 : Int) (x11 : List Int) (k : Nat) (hk : 1048577 < k) (HX : decide (x10 ≥ 0) = (timeOk x7 && decide ((x11.length : Int) ≥ x9))) : laws_FnAgreement.j1 (k + 1) l x7 x9 x10 x11 false = some true := by
  obtain ⟨a, b, c, d, e, f, g, ee⟩ := dLast l hl k hk
  simp only [laws_FnAgreement.j1, ee, Option.bind_some, lastOf2, holds2, time2]
  rw [if_neg (by simp)]
  have FIN : (if timeOk x7 = true then some (decide (x10 ≥ 0) == decide ((x11.length : Int) ≥ x9)) else some (decide (x10 ≥ 0) == false)) = some true := by
    rw [HX]
    by_cases h : timeOk x7 = true
    · rw [if_pos h, h, Bool.true_and]
      simp
    · rw [if_neg h, Bool.eq_false_iff.2 h]
      rfl
  rw [FIN]
  by_cases h : lastOf a b c d e f g ≥ 0
  · obtain ⟨h1, h2, h3, h4⟩ := last_ok a b c d e f g h
    rw [if_pos h, if_pos h1, if_pos h3]
    by_cases h5 : lastOf a b c d e f g < 10000
    · rw [if_pos h5, wrap_in (by omega) (by omega), h4 h5, if_neg (by simp)]
    · rw [if_neg h5]
  · rw [if_neg h]
theorem agreeTail (l : List Int) (hl : l.length ≤ 1048576) (s : List S54) (hs : s.length ≤ 30) (kind sub val now age least : Int) (i : Int) (hi : ((who s kind sub val now age).length : Int) ≤ i) (k : Nat) (hk : 20000000 < k) : laws_FnAgreement.l0 (k + 1 + 1) l s kind sub val now age least (untilOf s kind sub val now age least) (who s kind sub val now age) i = some true := by
  have HX : decide (untilOf s kind sub val now age least ≥ 0) = (timeOk now && decide (((who s kind sub val now age).length : Int) ≥ least)) := by
    unfold untilOf
    by_cases h1 : timeOk now = true
    · rw [if_pos h1, h1, Bool.true_and]
      have kn := of_decide_eq_true (show decide (0 ≤ now ∧ now ≤ 10000) = true from h1)
      by_cases h2 : accepted s kind sub val now age least = true
      · rw [if_pos h2, show decide (((who s kind sub val now age).length : Int) ≥ least) = true from h2]
        have := untilFrom_ok (fun t => accepted s kind sub val t age least) (10000 - now).toNat now (by omega) h2
        exact decide_eq_true (by omega)
      · rw [if_neg h2, show decide (((who s kind sub val now age).length : Int) ≥ least) = false from Bool.eq_false_iff.2 h2]
        rfl
    · rw [if_neg h1, Bool.eq_false_iff.2 h1]
      rfl
  have E := agreeEnd l hl now least _ _ k (by omega) HX
  simp only [laws_FnAgreement.l0, accepted2 s kind sub val _ age least (by omega) (k + 1) (by omega), Option.bind_some]
  rw [if_neg (by omega)]
  by_cases h : untilOf s kind sub val now age least ≥ 0
  · have hT : timeOk now = true ∧ accepted s kind sub val now age least = true := by
      rw [decide_eq_true h] at HX
      have := HX.symm
      simp only [Bool.and_eq_true] at this
      exact this
    have kn := of_decide_eq_true (show decide (0 ≤ now ∧ now ≤ 10000) = true from hT.1)
    have hu : untilOf s kind sub val now age least = untilFrom (fun t => accepted s kind sub val t age least) (10000 - now).toNat now := by
      unfold untilOf
      rw [if_pos hT.1, if_pos hT.2]
    obtain ⟨h1, h2, h3, h4⟩ := untilFrom_ok (fun t => accepted s kind sub val t age least) (10000 - now).toNat now (by omega) hT.2
    rw [← hu] at h1 h2 h3 h4
    rw [if_pos h, if_neg (by omega), if_pos hT.2, if_pos h3]
    by_cases h5 : untilOf s kind sub val now age least < 10000
    · have h6 := h4 h5
      rw [if_pos h5, wrap_in (x := untilOf s kind sub val now age least + 1) (by omega) (by omega)]
      rw [h6]
      exact E
    · rw [if_neg h5]
      exact E
  · rw [if_neg h]
    exact E
theorem agreeLoop (l : List Int) (hl : l.length ≤ 1048576) (s : List S54) (hs : s.length ≤ 30) (kind sub val now age least : Int) (d : Nat) : ∀ (i k : Nat), 1 ≤ i → (who s kind sub val now age).length ≤ i + d → 20000000 + d + 2 < k → laws_FnAgreement.l0 k l s kind sub val now age least (untilOf s kind sub val now age least) (who s kind sub val now age) (i : Int) = some true := by
  induction d with
  | zero =>
    intro i k h1 hi hk
    obtain ⟨k, rfl⟩ : ∃ m, k = m + 1 + 1 := ⟨k - 2, by omega⟩
    exact agreeTail l hl s hs kind sub val now age least i (by omega) k (by omega)
  | succ d ih =>
    intro i k h1 hi hk
    by_cases hlt : i < (who s kind sub val now age).length
    · obtain ⟨k, rfl⟩ : ∃ m, k = m + 1 := ⟨k - 1, by omega⟩
      have hl10 := who_length s kind sub val now age
      have hP : (who s kind sub val now age).Pairwise (· < ·) := (compact_sorted (whoRaw s kind sub val now age)).1
      have hq := (List.pairwise_iff_getElem.1 hP) (i - 1) i (by omega) hlt (by omega)
      rw [← getD_get _ _ 0 (by omega), ← getD_get _ _ 0 hlt] at hq
      simp only [laws_FnAgreement.l0]
      rw [if_pos (by omega), wrap_pred (by omega) hlt (by omega), if_pos (by omega), if_pos (by omega), if_pos (by omega), rd_nat, rd_nat, if_neg (by omega), wrap_succ hlt (by omega)]
      exact ih (i + 1) k (by omega) (by omega) (by omega)
    · obtain ⟨k, rfl⟩ : ∃ m, k = m + 1 + 1 := ⟨k - 2, by omega⟩
      exact agreeTail l hl s hs kind sub val now age least i (by omega) k (by omega)
theorem FnAgreement : laws_FnAgreement.Pure := by
  intro l hw
  suffices h : ∀ k, 20001000 < k → laws_FnAgreement.f k l = some true from ⟨20001001, h _ (by omega)⟩
  intro k hk
  unfold laws_FnAgreement.f laws_big.f
  rw [Option.bind_some]
  by_cases h : (l.length : Int) > 1048576
  · rw [if_pos (decide_eq_true h)]
  · rw [if_neg (by simpa using h)]
    obtain ⟨s, a, b, c, d, e, f, ee, hs⟩ := dUntil l (by omega) k (by omega)
    simp only [ee, Option.bind_some, until2 s a b c d e f (by omega) k (by omega), who2 s a b c d e (by omega) k (by omega)]
    exact agreeLoop l (by omega) s hs a b c d e f (who s a b c d e).length 1 k (by omega) (by omega) (by have := who_length s a b c d e; omega)
end Go.Proofs.Ytlcmjdkbeckdnaa.Pure
