/- FnRoles: what is said of roles holds for all bytes. Conditions: none. -/
import Derived.Test.YtgmgoabohppkeaaUFnRolesLib
import Derived.Test.YtgmgoabohppkeaaUFnRolesx10
namespace Go.Proofs.Ytgmgoabohppkeaa.Pure
open Go.RowKit Go.Proofs.Ytgmgoabohppkeaa.XFnRoles Go.Proofs.YtgmgoabohppkeaaW.PrintWords
set_option linter.unusedVariables false
set_option linter.unusedSimpArgs false
open Go.Proofs.YtgmgoabohppkeaaLib
theorem rdT75 (l : List S75) (i : Nat) : rd_T75 l (i : Int) = l.getD i z75 := by
  unfold rd_T75
  rw [Int.toNat_natCast]
theorem rdT78 (l : List S78) (i : Nat) : rd_T78 l (i : Int) = l.getD i z78 := by
  unfold rd_T78
  rw [Int.toNat_natCast]
theorem in1 (x y z : Int) : spec_l1In.f x y z = some (decide (y ≤ x ∧ x ≤ z)) := by
  unfold spec_l1In.f
  by_cases h : x ≥ y
  · rw [if_pos h]; simp [show y ≤ x from h]
  · rw [if_neg h]; simp; omega
theorem in2 (x y z : Int) : impl_InRange.f x y z = some (decide (y ≤ x ∧ x ≤ z)) := by
  unfold impl_InRange.f
  by_cases h : y ≤ x
  · rw [if_pos h]; simp [h]
  · rw [if_neg h]; simp; omega
def timeOk (t : Int) : Bool := decide (0 ≤ t ∧ t ≤ 10000)
theorem time1 (t : Int) : spec_IsTime.f t = some (timeOk t) := by
  simp only [spec_IsTime.f, in1, Option.bind_some]
  rfl
theorem time2 (t : Int) : impl_IsTime.f t = some (timeOk t) := by
  simp only [impl_IsTime.f, in2, Option.bind_some]
  rfl
def hasKind (n k : Int) : Bool := decide (10 ≤ n ∧ n ≤ 49) && (wrap64 (Int.tdiv n 10) == k)
theorem kind1 (n k : Int) : spec_HasKind.f n k = some (hasKind n k) := by
  simp only [spec_HasKind.f, spec_IsName.f, in1, Option.bind_some, ite_and]
  rfl
theorem kind2 (n k : Int) : impl_HasKind.f n k = some (hasKind n k) := by
  simp only [impl_HasKind.f, impl_KindOf.f, impl_IsName.f, in2, Option.bind_some]
  unfold hasKind
  cases decide (10 ≤ n ∧ n ≤ 49) <;> rfl
def claimOk (a b c : Int) : Bool :=
  if a = 1 then hasKind b 1 && decide (0 ≤ c ∧ c ≤ 5) else if a = 2 then hasKind b 1 && hasKind c 2 else if a = 3 then hasKind b 2 && decide (0 ≤ c ∧ c ≤ 3) else if a = 4 then hasKind b 3 && decide (0 ≤ c ∧ c ≤ 3) else false
def isFact (a b c d e f : Int) : Bool := claimOk a b c && (decide (0 ≤ d ∧ d ≤ 9) && (timeOk e && (timeOk f && decide (e ≤ f))))
theorem fact1 (a b c d e f : Int) : spec_IsFact.f a b c d e f = some (isFact a b c d e f) := by
  simp only [spec_IsFact.f, kind1, in1, time1, Option.bind_some, ite_and]
  unfold isFact claimOk
  by_cases h1 : a = 1
  · simp only [if_pos h1, Bool.and_assoc]
  by_cases h2 : a = 2
  · simp only [if_neg h1, if_pos h2, Bool.and_assoc]
  by_cases h3 : a = 3
  · simp only [if_neg h1, if_neg h2, if_pos h3, Bool.and_assoc]
  by_cases h4 : a = 4
  · simp only [if_neg h1, if_neg h2, if_neg h3, if_pos h4, Bool.and_assoc]
  · simp only [if_neg h1, if_neg h2, if_neg h3, if_neg h4, Bool.false_and]
theorem fact2 (a b c d e f : Int) : impl_IsFact.f a b c d e f = some (isFact a b c d e f) := by
  simp only [impl_IsFact.f, impl_isClaim.f, kind2, in2, time2, Option.bind_some, ite_and]
  unfold isFact claimOk
  by_cases h1 : a = 1
  · simp only [if_pos h1, Option.bind_some, ite_and]
  by_cases h2 : a = 2
  · simp only [if_neg h1, if_pos h2, Option.bind_some, ite_and]
  by_cases h3 : a = 3
  · simp only [if_neg h1, if_neg h2, if_pos h3, Option.bind_some, ite_and]
  by_cases h4 : a = 4
  · simp only [if_neg h1, if_neg h2, if_neg h3, if_pos h4, Option.bind_some, ite_and]
  · simp only [if_neg h1, if_neg h2, if_neg h3, if_neg h4, Option.bind_some, ite_and]
def within (a b t : Int) : Bool := timeOk a && (timeOk b && (timeOk t && decide (a ≤ t ∧ t ≤ b)))
theorem within2 (a b t : Int) : impl_IsWithin.f a b t = some (within a b t) := by
  simp only [impl_IsWithin.f, time2, in2, Option.bind_some, ite_and]
  rfl
def ageOf (a b : Int) : Int := if timeOk a = true then if timeOk b = true then if a > b then -1 else wrap64 (b - a) else -1 else -1
theorem age2 (a b : Int) : impl_AgeOf.f a b = some (ageOf a b) := by
  simp only [impl_AgeOf.f, time2, Option.bind_some]
  unfold ageOf
  split
  · split
    · split <;> rfl
    · rfl
  · rfl
theorem age_cases (a b : Int) : ageOf a b = -1 ∨ 0 ≤ ageOf a b := by
  unfold ageOf
  split
  · rename_i h1
    split
    · rename_i h2
      split
      · exact .inl rfl
      · have g1 := of_decide_eq_true (show decide (0 ≤ a ∧ a ≤ 10000) = true from h1)
        have g2 := of_decide_eq_true (show decide (0 ≤ b ∧ b ≤ 10000) = true from h2)
        rw [wrap_in (by omega) (by omega)]
        right
        omega
    · exact .inl rfl
  · exact .inl rfl
def fresh (a b g : Int) : Bool := decide (0 ≤ ageOf a b) && decide (ageOf a b ≤ g)
def holds (f0 f1 f2 f3 f4 f5 now age : Int) : Bool := isFact f0 f1 f2 f3 f4 f5 && (within f4 f5 now && fresh f4 now age)
theorem holds2 (f0 f1 f2 f3 f4 f5 now age : Int) : impl_HoldsAt.f f0 f1 f2 f3 f4 f5 now age = some (holds f0 f1 f2 f3 f4 f5 now age) := by
  simp only [impl_HoldsAt.f, fact2, within2, age2, Option.bind_some, ite_and]
  unfold holds
  by_cases h : within f4 f5 now = true
  · have h' := h
    unfold within at h'
    simp only [Bool.and_eq_true, decide_eq_true_eq] at h'
    obtain ⟨g1, _, g3, g4⟩ := h'
    have e : 0 ≤ ageOf f4 now := by
      have k1 := of_decide_eq_true (show decide (0 ≤ f4 ∧ f4 ≤ 10000) = true from g1)
      have k2 := of_decide_eq_true (show decide (0 ≤ now ∧ now ≤ 10000) = true from g3)
      unfold ageOf
      rw [if_pos g1, if_pos g3, if_neg (by omega), wrap_in (by omega) (by omega)]
      omega
    unfold fresh
    rw [decide_eq_true e, Bool.true_and]
  · rw [Bool.eq_false_iff.2 h]
    rfl
def has (l : List Int) (n : Int) : Bool := (List.range l.length).any fun i => l.getD i 0 == n
theorem index2 (l : List Int) (n : Int) (hl : l.length ≤ 1099511627776) (k : Nat) (hk : l.length < k) : slices_Index_int_int.f k l n = some (((List.range l.length).find? fun i => l.getD i 0 == n).elim (-1) fun i => (i : Int)) := by
  unfold slices_Index_int_int.f
  refine findLoop (fun k i => slices_Index_int_int.l0 k l n (l.length : Int) i) l.length 0 (fun i => l.getD i 0 == n) (fun i => (i : Int)) (-1) ?_ ?_ ?_ k (by omega)
  · intro k i _ hi hp
    have hp' : ¬ l.getD i 0 = n := by simpa using hp
    simp only [slices_Index_int_int.l0, rd_nat]
    rw [if_pos (by omega), if_pos (by omega), if_pos (by omega), if_neg (fun h => hp' h.symm), wrap_succ hi hl]
  · intro k i _ hi hp
    have hp' : l.getD i 0 = n := by simpa using hp
    simp only [slices_Index_int_int.l0, rd_nat]
    rw [if_pos (by omega), if_pos (by omega), if_pos (by omega), if_pos hp'.symm]
  · intro k _
    simp only [slices_Index_int_int.l0]
    rw [if_neg (by omega)]
theorem has2 (l : List Int) (n : Int) (hl : l.length ≤ 1099511627776) (k : Nat) (hk : l.length < k) : slices_Contains_int_int.f k l n = some (has l n) := by
  unfold slices_Contains_int_int.f has
  rw [index2 l n hl k hk, Option.bind_some]
  congr 1
  cases hf : (List.range l.length).find? fun i => l.getD i 0 == n with
  | none =>
    rw [List.find?_eq_none] at hf
    show decide ((-1 : Int) ≥ 0) = _
    rw [eq_comm, show decide ((-1 : Int) ≥ 0) = false from rfl, List.any_eq_false]
    exact hf
  | some i =>
    rw [List.find?_range_eq_some] at hf
    show decide ((i : Int) ≥ 0) = _
    rw [eq_comm, decide_eq_true (show (i : Int) ≥ 0 by omega), List.any_eq_true]
    exact ⟨i, hf.2.1, hf.1⟩
/-- There is a pair from a to the role b. -/
def edge (l : List S78) (a b : Int) : Prop := ∃ x ∈ l, x.f0 = a ∧ x.f1 = b ∧ 0 ≤ b ∧ b ≤ 5
def reach (l : List S78) : Int → Int → Prop := Relation.TransGen (edge l)
def falses : List Bool → Nat
  | [] => 0
  | true :: t => falses t
  | false :: t => falses t + 1
theorem falses_len (bs : List Bool) : falses bs ≤ bs.length := by
  induction bs with
  | nil => exact Nat.le_refl _
  | cons b t ih => cases b <;> simp only [falses, List.length_cons] <;> omega
theorem falses_zero (bs : List Bool) : falses bs = 0 → ∀ i, i < bs.length → bs.getD i false = true := by
  induction bs with
  | nil => intro _ i hi; simp at hi
  | cons b t ih =>
    intro h i hi
    cases b with
    | false => simp [falses] at h
    | true =>
      cases i with
      | zero => rfl
      | succ i => exact ih (by simpa [falses] using h) i (by simpa using hi)
theorem falses_set (bs : List Bool) : ∀ i, i < bs.length → bs.getD i false = false → falses (bs.set i true) + 1 = falses bs := by
  induction bs with
  | nil => intro i hi; simp at hi
  | cons b t ih =>
    intro i hi h
    cases i with
    | zero =>
      have hb : b = false := by simpa using h
      subst hb
      rfl
    | succ i =>
      have := ih i (by simpa using hi) (by simpa using h)
      cases b
      · show falses (t.set i true) + 1 + 1 = falses t + 1
        omega
      · show falses (t.set i true) + 1 = falses t
        omega
theorem getD_set_iff (bs : List Bool) (i j : Nat) (hi : i < bs.length) : (bs.set i true).getD j false = true ↔ bs.getD j false = true ∨ j = i := by
  simp only [List.getD_eq_getElem?_getD, List.getElem?_set]
  by_cases h : i = j
  · subst h
    simp [hi]
  · simp [h, Ne.symm h]
theorem set_same (bs : List Bool) (i : Nat) (h : bs.getD i false = true) : bs.set i true = bs := by
  refine List.ext_getElem? fun j => ?_
  rw [List.getElem?_set]
  by_cases q : i = j
  · subst q
    rw [List.getD_eq_getElem?_getD] at h
    by_cases hl : i < bs.length
    · rw [List.getElem?_eq_getElem hl] at h
      simp at h
      simp [hl, h]
    · simp [hl]
  · simp [q]
theorem below_fold (a : Int) (b : List S78) : ∀ s : List Bool × List Int, s.1.length = 6 →
    (b.foldl (impl_below.st a) s).1.length = 6 ∧ falses (b.foldl (impl_below.st a) s).1 + (b.foldl (impl_below.st a) s).2.length = falses s.1 + s.2.length ∧
    (∀ i : Nat, s.1.getD i false = true → (b.foldl (impl_below.st a) s).1.getD i false = true) ∧
    (∀ i : Nat, (b.foldl (impl_below.st a) s).1.getD i false = true → s.1.getD i false = true ∨ ((i : Int) ∈ (b.foldl (impl_below.st a) s).2 ∧ edge b a i)) ∧
    (∀ t ∈ s.2, t ∈ (b.foldl (impl_below.st a) s).2) ∧
    (∀ t ∈ (b.foldl (impl_below.st a) s).2, t ∈ s.2 ∨ edge b a t) ∧
    (∀ c, edge b a c → (b.foldl (impl_below.st a) s).1.getD c.toNat false = true) := by
  induction b with
  | nil =>
    intro s hs
    refine ⟨hs, rfl, fun _ h => h, fun _ h => .inl h, fun _ h => h, fun _ h => .inl h, fun c h => ?_⟩
    obtain ⟨x, hx, _⟩ := h
    cases hx
  | cons x b ih =>
    intro s hs
    have mono : ∀ c, edge b a c → edge (x :: b) a c := fun c h => by
      obtain ⟨y, hy, q⟩ := h
      exact ⟨y, List.mem_cons_of_mem _ hy, q⟩
    rw [List.foldl_cons]
    by_cases h : x.f0 = a ∧ (0 ≤ x.f1 ∧ x.f1 ≤ 5) ∧ s.1.getD x.f1.toNat false = false
    · have e : impl_below.st a s x = (s.1.set x.f1.toNat true, s.2 ++ [x.f1]) := by unfold impl_below.st; rw [if_pos h]
      rw [e]
      have hi : x.f1.toNat < s.1.length := by omega
      obtain ⟨g1, g2, g3, g4, g5, g6, g7⟩ := ih (s.1.set x.f1.toNat true, s.2 ++ [x.f1]) (by simpa using hs)
      generalize b.foldl (impl_below.st a) (s.1.set x.f1.toNat true, s.2 ++ [x.f1]) = r at g1 g2 g3 g4 g5 g6 g7 ⊢
      have hc := falses_set s.1 x.f1.toNat hi h.2.2
      have hx : edge (x :: b) a x.f1 := ⟨x, List.mem_cons_self, h.1, rfl, h.2.1.1, h.2.1.2⟩
      refine ⟨g1, ?_, fun i q => g3 i ((getD_set_iff _ _ _ hi).2 (.inl q)), fun i q => ?_, fun t q => g5 t (List.mem_append_left _ q), fun t q => ?_, fun c q => ?_⟩
      · rw [g2]
        simp only [List.length_append, List.length_singleton]
        omega
      · rcases g4 i q with q | q
        · rcases (getD_set_iff _ _ _ hi).1 q with q | q
          · exact .inl q
          · have hc1 : (i : Int) = x.f1 := by omega
            exact .inr ⟨by rw [hc1]; exact g5 _ (List.mem_append_right _ (List.mem_singleton.2 rfl)), by rw [hc1]; exact hx⟩
        · exact .inr ⟨q.1, mono _ q.2⟩
      · rcases g6 t q with q | q
        · rcases List.mem_append.1 q with q | q
          · exact .inl q
          · rw [List.mem_singleton.1 q]
            exact .inr hx
        · exact .inr (mono _ q)
      · obtain ⟨y, hy, e1, e2, e3, e4⟩ := q
        rcases List.mem_cons.1 hy with rfl | hy
        · subst e2
          exact g3 _ ((getD_set_iff _ _ _ hi).2 (.inr rfl))
        · exact g7 c ⟨y, hy, e1, e2, e3, e4⟩
    · have e : impl_below.st a s x = s := by unfold impl_below.st; rw [if_neg h]
      rw [e]
      obtain ⟨g1, g2, g3, g4, g5, g6, g7⟩ := ih s hs
      generalize b.foldl (impl_below.st a) s = r at g1 g2 g3 g4 g5 g6 g7 ⊢
      refine ⟨g1, g2, g3, fun i q => ?_, g5, fun t q => ?_, fun c q => ?_⟩
      · rcases g4 i q with q | q
        · exact .inl q
        · exact .inr ⟨q.1, mono _ q.2⟩
      · rcases g6 t q with q | q
        · exact .inl q
        · exact .inr (mono _ q)
      · obtain ⟨y, hy, e1, e2, e3, e4⟩ := q
        rcases List.mem_cons.1 hy with rfl | hy
        · subst e2
          have : s.1.getD y.f1.toNat false = true := by
            cases hb : s.1.getD y.f1.toNat false with
            | true => rfl
            | false => exact absurd ⟨e1, ⟨e3, e4⟩, hb⟩ h
          exact g3 _ this
        · exact g7 c ⟨y, hy, e1, e2, e3, e4⟩
theorem below_go (l : List S78) (hl : l.length ≤ 1048576) (role : Int) : ∀ (k : Nat) (bs : List Bool) (todo : List Int), bs.length = 6 → falses bs + todo.length < k → falses bs + todo.length ≤ 7 →
    (∀ i : Nat, bs.getD i false = true → reach l role i) → (∀ t ∈ todo, t = role ∨ reach l role t) →
    (∀ a : Int, (a = role ∨ (0 ≤ a ∧ bs.getD a.toNat false = true)) → a ∉ todo → ∀ c, edge l a c → bs.getD c.toNat false = true) →
    ∃ bs', impl_below.go l k bs todo = some bs' ∧ bs'.length = 6 ∧ ∀ i : Nat, bs'.getD i false = true ↔ reach l role i := by
  intro k
  induction k with
  | zero => intro bs todo _ h; omega
  | succ k ih =>
    intro bs todo hb hk h7 h1 h2 h3
    cases todo with
    | nil =>
      refine ⟨bs, rfl, hb, fun i => ⟨h1 i, fun q => ?_⟩⟩
      have key : ∀ c : Int, reach l role c → bs.getD c.toNat false = true ∧ 0 ≤ c := by
        intro c q
        induction q with
        | single e => exact ⟨h3 role (.inl rfl) (List.not_mem_nil) _ e, by obtain ⟨_, _, _, _, g, _⟩ := e; exact g⟩
        | tail _ e ihq => exact ⟨h3 _ (.inr ⟨ihq.2, ihq.1⟩) (List.not_mem_nil) _ e, by obtain ⟨_, _, _, _, g, _⟩ := e; exact g⟩
      exact (key i q).1
    | cons a t =>
      simp only [List.length_cons] at hk h7
      simp only [impl_below.go]
      rw [if_pos (by omega)]
      obtain ⟨g1, g2, g3, g4, g5, g6, g7⟩ := below_fold a l (bs, t) hb
      generalize l.foldl (impl_below.st a) (bs, t) = r at g1 g2 g3 g4 g5 g6 g7 ⊢
      have ha : a = role ∨ reach l role a := h2 a (List.mem_cons_self)
      have hstep : ∀ c, edge l a c → reach l role c := by
        intro c e
        rcases ha with rfl | q
        · exact Relation.TransGen.single e
        · exact Relation.TransGen.tail q e
      refine ih r.1 r.2 g1 (by simp only at g2; omega) (by simp only at g2; omega) (fun i q => ?_) (fun c q => ?_) (fun c q hn d e => ?_)
      · rcases g4 i q with q | q
        · exact h1 i q
        · exact hstep _ q.2
      · rcases g6 c q with q | q
        · exact h2 c (List.mem_cons_of_mem _ q)
        · exact .inr (hstep _ q)
      · by_cases hca : c = a
        · subst hca
          exact g7 d e
        · have hnt : c ∉ a :: t := by
            intro q2
            rcases List.mem_cons.1 q2 with q2 | q2
            · exact hca q2
            · exact hn (g5 c q2)
          refine g3 _ (h3 c ?_ hnt d e)
          rcases q with q | ⟨q0, q⟩
          · exact .inl q
          · rcases g4 _ q with q | q
            · exact .inr ⟨q0, q⟩
            · refine absurd ?_ hn
              have := q.1
              rwa [Int.toNat_of_nonneg q0] at this
theorem below2 (l : List S78) (hl : l.length ≤ 1048576) (role : Int) (k : Nat) (hk : 7 < k) : ∃ bs, impl_below.f k l role = some bs ∧ bs.length = 6 ∧ ∀ i : Nat, bs.getD i false = true ↔ reach l role i := by
  unfold impl_below.f
  have hz : ∀ i : Nat, (List.replicate 6 false).getD i false = false := by
    intro i
    rw [List.getD_eq_getElem?_getD, List.getElem?_replicate]
    split <;> rfl
  refine below_go l hl role k (List.replicate 6 false) [role] rfl (by simp only [List.length_singleton]; show 6 + 1 < k; omega) (Nat.le_refl 7) (fun i q => ?_) (fun t q => .inl (List.mem_singleton.1 q)) (fun a q hn => ?_)
  · rw [hz] at q
    cases q
  · rcases q with q | ⟨_, q⟩
    · exact absurd (List.mem_singleton.2 q) hn
    · rw [hz] at q
      cases q
/-- One pass over the pairs. -/
def mk1 (ms : List Bool) (x : S78) : List Bool := if (0 ≤ x.f0 ∧ x.f0 ≤ 5) ∧ (0 ≤ x.f1 ∧ x.f1 ≤ 5) ∧ ms.getD x.f0.toNat false = true then ms.set x.f1.toNat true else ms
def passes (l : List S78) : Nat → List Bool → List Bool
  | 0, ms => ms
  | n + 1, ms => passes l n (l.foldl mk1 ms)
theorem mk1_len (ms : List Bool) (x : S78) : (mk1 ms x).length = ms.length := by
  unfold mk1
  split
  · simp
  · rfl
theorem pass_fold (b : List S78) : ∀ ms : List Bool, ms.length = 6 → (b.foldl mk1 ms).length = 6 ∧ (∀ i : Nat, ms.getD i false = true → (b.foldl mk1 ms).getD i false = true) ∧
    falses (b.foldl mk1 ms) ≤ falses ms ∧ (falses (b.foldl mk1 ms) = falses ms → b.foldl mk1 ms = ms ∧ ∀ x ∈ b, (0 ≤ x.f0 ∧ x.f0 ≤ 5) → (0 ≤ x.f1 ∧ x.f1 ≤ 5) → ms.getD x.f0.toNat false = true → ms.getD x.f1.toNat false = true) := by
  induction b with
  | nil => intro ms h; exact ⟨h, fun _ h => h, Nat.le_refl _, fun _ => ⟨rfl, fun x hx => by cases hx⟩⟩
  | cons x b ih =>
    intro ms hm
    rw [List.foldl_cons]
    obtain ⟨g1, g2, g3, g4⟩ := ih (mk1 ms x) (by rw [mk1_len]; exact hm)
    by_cases h : (0 ≤ x.f0 ∧ x.f0 ≤ 5) ∧ (0 ≤ x.f1 ∧ x.f1 ≤ 5) ∧ ms.getD x.f0.toNat false = true
    · have e : mk1 ms x = ms.set x.f1.toNat true := by unfold mk1; rw [if_pos h]
      have hi : x.f1.toNat < ms.length := by omega
      cases hb : ms.getD x.f1.toNat false with
      | true =>
        rw [set_same ms _ hb] at e
        rw [e] at g1 g2 g3 g4 ⊢
        refine ⟨g1, g2, g3, fun q => ⟨(g4 q).1, fun y hy => ?_⟩⟩
        rcases List.mem_cons.1 hy with rfl | hy
        · exact fun _ _ _ => hb
        · exact (g4 q).2 y hy
      | false =>
        have hf := falses_set ms _ hi hb
        rw [e] at g1 g2 g3 g4 ⊢
        exact ⟨g1, fun i q => g2 i ((getD_set_iff _ _ _ hi).2 (.inl q)), by omega, fun q => by omega⟩
    · have e : mk1 ms x = ms := by unfold mk1; rw [if_neg h]
      rw [e] at g1 g2 g3 g4 ⊢
      refine ⟨g1, g2, g3, fun q => ⟨(g4 q).1, fun y hy => ?_⟩⟩
      rcases List.mem_cons.1 hy with rfl | hy
      · exact fun a1 a2 a3 => absurd ⟨a1, a2, a3⟩ h
      · exact (g4 q).2 y hy
theorem pass_sound (l : List S78) (role : Int) (b : List S78) : ∀ ms : List Bool, ms.length = 6 → (∀ x ∈ b, x ∈ l) → (∀ i : Nat, ms.getD i false = true → (i : Int) = role ∨ reach l role i) → ∀ i : Nat, (b.foldl mk1 ms).getD i false = true → (i : Int) = role ∨ reach l role i := by
  induction b with
  | nil => intro ms _ _ h; exact h
  | cons x b ih =>
    intro ms hm hs h
    rw [List.foldl_cons]
    refine ih (mk1 ms x) (by rw [mk1_len]; exact hm) (fun y hy => hs y (List.mem_cons_of_mem _ hy)) fun i q => ?_
    unfold mk1 at q
    split at q
    · rename_i hx
      rcases (getD_set_iff _ _ _ (by omega)).1 q with q | q
      · exact h i q
      · have h0 := h _ hx.2.2
        rw [Int.toNat_of_nonneg hx.1.1] at h0
        have e : edge l x.f0 i := ⟨x, hs x List.mem_cons_self, rfl, by omega, by omega, by omega⟩
        rcases h0 with h0 | h0
        · rw [h0] at e
          exact .inr (Relation.TransGen.single e)
        · exact .inr (Relation.TransGen.tail h0 e)
    · exact h i q
theorem passes_len (l : List S78) (n : Nat) : ∀ ms : List Bool, ms.length = 6 → (passes l n ms).length = 6 := by
  induction n with
  | zero => intro ms h; exact h
  | succ n ih => intro ms h; exact ih _ (pass_fold l ms h).1
theorem passes_mono (l : List S78) (n : Nat) : ∀ ms : List Bool, ms.length = 6 → ∀ i : Nat, ms.getD i false = true → (passes l n ms).getD i false = true := by
  induction n with
  | zero => intro ms _ i h; exact h
  | succ n ih => intro ms h i hi; exact ih _ (pass_fold l ms h).1 i ((pass_fold l ms h).2.1 i hi)
theorem passes_sound (l : List S78) (role : Int) (n : Nat) : ∀ ms : List Bool, ms.length = 6 → (∀ i : Nat, ms.getD i false = true → (i : Int) = role ∨ reach l role i) → ∀ i : Nat, (passes l n ms).getD i false = true → (i : Int) = role ∨ reach l role i := by
  induction n with
  | zero => intro ms _ h; exact h
  | succ n ih => intro ms h hs; exact ih _ (pass_fold l ms h).1 (pass_sound l role l ms h (fun _ hx => hx) hs)
theorem passes_fix (l : List S78) (ms : List Bool) (h : l.foldl mk1 ms = ms) (n : Nat) : passes l n ms = ms := by
  induction n with
  | zero => rfl
  | succ n ih => rw [passes, h, ih]
theorem passes_closed (l : List S78) (n : Nat) : ∀ ms : List Bool, ms.length = 6 → falses ms ≤ n → ∀ x ∈ l, (0 ≤ x.f0 ∧ x.f0 ≤ 5) → (0 ≤ x.f1 ∧ x.f1 ≤ 5) → (passes l n ms).getD x.f0.toNat false = true → (passes l n ms).getD x.f1.toNat false = true := by
  induction n with
  | zero =>
    intro ms h hf x _ _ h1 _
    exact falses_zero ms (by omega) _ (by omega)
  | succ n ih =>
    intro ms h hf
    obtain ⟨g1, g2, g3, g4⟩ := pass_fold l ms h
    by_cases q : falses (l.foldl mk1 ms) = falses ms
    · obtain ⟨e, hc⟩ := g4 q
      rw [passes, e, passes_fix l ms e]
      exact hc
    · exact ih _ g1 (by omega)
def start (role : Int) : List Bool := (List.replicate 6 false).set role.toNat true
/-- The roles under a role, in their order. -/
def under (l : List S78) (role : Int) : List Int := if 0 ≤ role ∧ role ≤ 5 then ((List.range 6).filter fun i => (passes l 6 (start role)).getD i false).map fun (i : Nat) => (i : Int) else []
theorem marks_iff (l : List S78) (role : Int) (hr : 0 ≤ role ∧ role ≤ 5) (i : Nat) : (passes l 6 (start role)).getD i false = true ↔ (i : Int) = role ∨ reach l role i := by
  have hs : (start role).length = 6 := by simp [start]
  have hlt : role.toNat < (List.replicate 6 false).length := by simp; omega
  have hz : ∀ i : Nat, (List.replicate 6 false).getD i false = false := by
    intro i
    rw [List.getD_eq_getElem?_getD, List.getElem?_replicate]
    split <;> rfl
  have hb : ∀ i : Nat, (start role).getD i false = true ↔ (i : Int) = role := by
    intro i
    unfold start
    rw [getD_set_iff _ _ _ hlt, hz]
    constructor
    · rintro (h | h)
      · cases h
      · omega
    · intro h
      exact .inr (by omega)
  constructor
  · exact passes_sound l role 6 _ hs (fun i h => .inl ((hb i).1 h)) i
  · have hc := passes_closed l 6 (start role) hs (by have := falses_len (start role); omega)
    have h0 : (passes l 6 (start role)).getD role.toNat false = true := passes_mono l 6 _ hs _ ((hb _).2 (by omega))
    have hlen := passes_len l 6 _ hs
    generalize passes l 6 (start role) = ms at hc h0 hlen
    have key : ∀ c : Int, reach l role c → ms.getD c.toNat false = true ∧ 0 ≤ c ∧ c ≤ 5 := by
      intro c q
      induction q with
      | single e =>
        obtain ⟨x, hx, rfl, rfl, g, g'⟩ := e
        exact ⟨hc x hx hr ⟨g, g'⟩ h0, g, g'⟩
      | tail _ e ihq =>
        obtain ⟨x, hx, rfl, rfl, g, g'⟩ := e
        exact ⟨hc x hx ihq.2 ⟨g, g'⟩ ihq.1, g, g'⟩
    rintro (h | h)
    · rw [show i = role.toNat by omega]
      exact h0
    · exact (key _ h).1
theorem under_len (l : List S78) (role : Int) : (under l role).length ≤ 6 := by
  unfold under
  split
  · rw [List.length_map]
    exact Nat.le_trans (List.length_filter_le _ _) (by simp)
  · simp
theorem under_mem (l : List S78) (role : Int) (c : Int) : c ∈ under l role ↔ (0 ≤ role ∧ role ≤ 5) ∧ (0 ≤ c ∧ c ≤ 5) ∧ (c = role ∨ reach l role c) := by
  unfold under
  split
  · rename_i h
    simp only [List.mem_map, List.mem_filter, List.mem_range]
    constructor
    · rintro ⟨i, ⟨h6, hi⟩, rfl⟩
      exact ⟨h, by omega, (marks_iff l role h i).1 hi⟩
    · rintro ⟨_, hc, q⟩
      refine ⟨c.toNat, ⟨by omega, (marks_iff l role h _).2 ?_⟩, by omega⟩
      rwa [Int.toNat_of_nonneg hc.1]
  · rename_i h
    constructor
    · intro q
      cases q
    · intro q
      exact absurd q.1 h
def marked (p : Nat → Bool) (n : Nat) : List Int := ((List.range n).filter p).map fun (i : Nat) => (i : Int)
theorem marked_len (p : Nat → Bool) (n : Nat) : (marked p n).length ≤ n := by
  unfold marked
  rw [List.length_map]
  exact Nat.le_trans (List.length_filter_le _ _) (by simp)
theorem marked_succ (p : Nat → Bool) (n : Nat) : marked p (n + 1) = if p n = true then marked p n ++ [(n : Int)] else marked p n := by
  unfold marked
  rw [List.range_succ, List.filter_append, List.map_append]
  by_cases h : p n = true
  · rw [if_pos h]
    simp [h]
  · rw [if_neg h]
    simp [h]
theorem marked_congr (p q : Nat → Bool) (n : Nat) (h : ∀ i, i < n → p i = q i) : marked p n = marked q n := by
  unfold marked
  rw [List.filter_congr fun i hi => h i (List.mem_range.1 hi)]
theorem ruInner (l : List S78) (hl : l.length ≤ 1048576) (x5 : List Int) (v : Int) : ∀ (b a : List S78) (ms : List Bool) (k : Nat), l = a ++ b → ms.length = 6 → spec_RolesUnder.l1 (k + b.length + 1) l x5 ms v (a.length : Int) = spec_RolesUnder.l0 k l x5 (b.foldl mk1 ms) (wrap64 (v + 1)) := by
  intro b
  induction b with
  | nil =>
    intro a ms k he _
    have hla : l.length = a.length := by rw [he]; simp
    simp only [spec_RolesUnder.l1]
    rw [if_neg (by omega)]
    rfl
  | cons x r ih =>
    intro a ms k he hm
    have hla : l.length = a.length + (r.length + 1) := by rw [he]; simp
    have hx' : rd_T78 l (a.length : Int) = x := by
      rw [rdT78, he, getD_get _ _ _ (by simp), List.getElem_append_right (Nat.le_refl _)]
      simp
    have hw : wrap64 ((a.length : Int) + 1) = (((a ++ [x]).length : Nat) : Int) := by rw [List.length_append]; unfold wrap64; simp; omega
    have he' : l = (a ++ [x]) ++ r := by rw [he]; simp
    have hn := ih (a ++ [x]) (mk1 ms x) k he' (by rw [mk1_len]; exact hm)
    rw [List.foldl_cons, List.length_cons, show k + (r.length + 1) + 1 = (k + r.length + 1) + 1 by omega, ← hn]
    generalize hq : k + r.length + 1 = q
    simp only [spec_RolesUnder.l1, hx', in1, Option.bind_some, hw]
    rw [if_pos (by omega), if_pos (by omega)]
    by_cases h0 : 0 ≤ x.f0 ∧ x.f0 ≤ 5
    · rw [decide_eq_true h0, if_pos rfl]
      by_cases h1 : 0 ≤ x.f1 ∧ x.f1 ≤ 5
      · rw [decide_eq_true h1, if_pos rfl, if_pos h0.1, if_pos (by omega)]
        by_cases h2 : ms.getD x.f0.toNat false = true
        · have e : mk1 ms x = ms.set x.f1.toNat true := by unfold mk1; rw [if_pos ⟨h0, h1, h2⟩]
          rw [if_pos (by exact h2), if_pos h1.1, if_pos (by omega), e]
        · have e : mk1 ms x = ms := by unfold mk1; rw [if_neg (fun h => h2 h.2.2)]
          rw [if_neg (by exact h2), e]
      · have e : mk1 ms x = ms := by unfold mk1; rw [if_neg (fun h => h1 h.2.1)]
        rw [decide_eq_false h1, if_neg (by simp), e]
    · have e : mk1 ms x = ms := by unfold mk1; rw [if_neg (fun h => h0 h.1)]
      rw [decide_eq_false h0, if_neg (by simp), e]
theorem ruOuter (l : List S78) (hl : l.length ≤ 1048576) (x5 : List Int) (m : Nat) : ∀ (v : Int) (ms : List Bool) (k : Nat), v + (m : Int) = 6 → 0 ≤ v → ms.length = 6 → spec_RolesUnder.l0 (k + m * (l.length + 2) + 1) l x5 ms v = spec_RolesUnder.l2 k x5 (passes l m ms) 0 := by
  induction m with
  | zero =>
    intro v ms k hv _ _
    rw [Nat.zero_mul, Nat.add_zero]
    simp only [spec_RolesUnder.l0]
    rw [if_neg (by omega)]
    rfl
  | succ m ih =>
    intro v ms k hv h0 hm
    rw [Nat.succ_mul, show k + (m * (l.length + 2) + (l.length + 2)) + 1 = ((k + m * (l.length + 2) + 1) + l.length + 1) + 1 by omega]
    simp only [spec_RolesUnder.l0]
    rw [if_pos (by omega)]
    have := ruInner l hl x5 v l [] ms (k + m * (l.length + 2) + 1) (by simp) hm
    rw [show (([] : List S78).length : Int) = 0 from rfl] at this
    rw [this, wrap_in (by omega) (by omega), ih (v + 1) _ k (by omega) (by omega) (pass_fold l ms hm).1]
    rfl
theorem ruOut (ms : List Bool) (hm : ms.length = 6) (k : Nat) (hk : 7 < k) : spec_RolesUnder.l2 k [] ms 0 = some (marked (fun i => ms.getD i false) 6) := by
  refine run (fun k s i => spec_RolesUnder.l2 k s ms i) (fun i => marked (fun i => ms.getD i false) i) 6 0 _ ?_ ?_ k (by omega)
  · intro k i _ hi
    have hlen := marked_len (fun i => ms.getD i false) i
    have hr : rdOf false ms (i : Int) = ms.getD i false := by unfold rdOf; rw [Int.toNat_natCast]
    simp only [spec_RolesUnder.l2, hr]
    rw [if_pos (by omega), if_pos (by omega), if_pos (by omega), marked_succ, wrap_in (by omega) (by omega)]
    by_cases h : ms.getD i false = true
    · rw [if_pos h, if_pos h, if_pos (by omega)]
      rfl
    · rw [if_neg h, if_neg h]
      rfl
  · intro k _
    simp only [spec_RolesUnder.l2]
    rw [if_neg (by omega)]
theorem under1 (l : List S78) (hl : l.length ≤ 1048576) (a : Int) (k : Nat) (hk : 7000000 < k) : spec_RolesUnder.f k l a = some (under l a) := by
  unfold spec_RolesUnder.f under
  simp only [in1, Option.bind_some]
  by_cases h : 0 ≤ a ∧ a ≤ 5
  · rw [decide_eq_true h, if_pos rfl, if_pos h, if_pos (by omega), if_pos h.1, if_pos (by simp; omega)]
    have hs : (start a).length = 6 := by simp [start]
    have := ruOuter l hl [] 6 0 (start a) (k - 6 * (l.length + 2) - 1) (by omega) (by omega) hs
    rw [show k - 6 * (l.length + 2) - 1 + 6 * (l.length + 2) + 1 = k by omega] at this
    refine Eq.trans this ?_
    rw [ruOut _ (passes_len l 6 _ hs) _ (by omega)]
    rfl
  · rw [decide_eq_false h, if_neg h, if_neg (by simp)]
theorem under_g (bs : List Bool) (a : Int) (d : Nat) : ∀ i : Nat, i + d = 6 → impl_RolesUnder.g bs a d (i : Int) (marked (fun j => bs.getD j false || decide ((j : Int) = a)) i) = marked (fun j => bs.getD j false || decide ((j : Int) = a)) 6 := by
  induction d with
  | zero =>
    intro i hi
    obtain rfl : i = 6 := by omega
    rfl
  | succ d ih =>
    intro i hi
    rw [impl_RolesUnder.g, Int.toNat_natCast]
    have := ih (i + 1) (by omega)
    rw [marked_succ] at this
    refine Eq.trans ?_ this
    by_cases h : bs.getD i false = true ∨ (i : Int) = a
    · rw [if_pos h, if_pos (by simpa using h)]
      rfl
    · rw [if_neg h, if_neg (by simpa using h)]
      rfl
theorem under2 (l : List S78) (hl : l.length ≤ 1048576) (a : Int) (k : Nat) (hk : 7 < k) : impl_RolesUnder.f k l a = some (under l a) := by
  unfold impl_RolesUnder.f
  by_cases h : 0 ≤ a ∧ a ≤ 5
  · obtain ⟨bs, hb, hl6, hi⟩ := below2 l hl a k hk
    have hg := under_g bs a 6 0 (by omega)
    rw [if_pos h, hb, Option.bind_some, if_pos hl6]
    refine congrArg some (Eq.trans hg ?_)
    unfold under
    rw [if_pos h]
    refine marked_congr _ _ 6 fun i _ => ?_
    have h1 := hi i
    have h2 := marks_iff l a h i
    rw [Bool.eq_iff_iff]
    simp only [Bool.or_eq_true, decide_eq_true_eq]
    rw [h1, h2, Or.comm]
  · rw [if_neg h]
    unfold under
    rw [if_neg h]
theorem reach_head {l : List S78} {a b c : Int} (h : edge l a b) (q : reach l b c) : reach l a c := by
  induction q with
  | single e => exact Relation.TransGen.tail (Relation.TransGen.single h) e
  | tail _ e ih => exact Relation.TransGen.tail ih e
theorem reach_first {l : List S78} {a c : Int} (q : reach l a c) : ∃ b, edge l a b ∧ (b = c ∨ reach l b c) := by
  induction q with
  | single e => exact ⟨_, e, .inl rfl⟩
  | tail _ e ih =>
    obtain ⟨b, h, g⟩ := ih
    refine ⟨b, h, .inr ?_⟩
    rcases g with rfl | g
    · exact Relation.TransGen.single e
    · exact Relation.TransGen.tail g e
theorem has_mem (l : List Int) (n : Int) : has l n = true ↔ n ∈ l := by
  unfold has
  rw [List.any_eq_true]
  constructor
  · rintro ⟨i, hi, e⟩
    have hi' := List.mem_range.1 hi
    have e' : l.getD i 0 = n := by simpa using e
    rw [← e']
    exact getD_mem l i 0 hi'
  · intro h
    obtain ⟨i, hi, e⟩ := List.mem_iff_getElem.1 h
    exact ⟨i, List.mem_range.2 hi, by rw [getD_get l i 0 hi, e]; exact beq_self_eq_true n⟩
/-- A pair is well made: of two roles, and the greater is not under the lesser. -/
def wellMade (l : List S78) (x : S78) : Bool := decide (0 ≤ x.f0 ∧ x.f0 ≤ 5) && (decide (0 ≤ x.f1 ∧ x.f1 ≤ 5) && !has (under l x.f1) x.f0)
def arePairs (l : List S78) : Bool := l.all (wellMade l) && decide ((l.length : Int) ≤ 10)
theorem wellMade_iff (l : List S78) : l.all (wellMade l) = true ↔ ∀ x ∈ l, (0 ≤ x.f0 ∧ x.f0 ≤ 5) ∧ (0 ≤ x.f1 ∧ x.f1 ≤ 5) ∧ ¬ reach l x.f0 x.f0 := by
  rw [List.all_eq_true]
  constructor
  · intro h x hx
    have hw : ∀ y ∈ l, (0 ≤ y.f0 ∧ y.f0 ≤ 5) ∧ (0 ≤ y.f1 ∧ y.f1 ≤ 5) ∧ ¬ y.f0 ∈ under l y.f1 := fun y hy => by
      have := h y hy
      unfold wellMade at this
      simp only [Bool.and_eq_true, decide_eq_true_eq, Bool.not_eq_true'] at this
      refine ⟨this.1, this.2.1, fun q => ?_⟩
      have g := (has_mem _ _).2 q
      rw [this.2.2] at g
      cases g
    refine ⟨(hw x hx).1, (hw x hx).2.1, fun q => ?_⟩
    obtain ⟨b, ⟨y, hy, e0, e1, g0, g1⟩, hb⟩ := reach_first q
    refine (hw y hy).2.2 ((under_mem l y.f1 y.f0).2 ⟨(hw y hy).2.1, (hw y hy).1, ?_⟩)
    rw [e0, e1]
    rcases hb with hb | hb
    · exact .inl hb.symm
    · exact .inr hb
  · intro h x hx
    obtain ⟨h0, h1, h2⟩ := h x hx
    unfold wellMade
    simp only [Bool.and_eq_true, decide_eq_true_eq, Bool.not_eq_true']
    refine ⟨h0, h1, Bool.eq_false_iff.2 fun q => h2 ?_⟩
    have e : edge l x.f0 x.f1 := ⟨x, hx, rfl, rfl, h1.1, h1.2⟩
    rcases ((under_mem l x.f1 x.f0).1 ((has_mem _ _).1 q)).2.2 with g | g
    · rw [← g] at e
      exact Relation.TransGen.single e
    · exact reach_head e g
theorem pairs_g (l : List S78) (hl : l.length ≤ 1048576) (k : Nat) (hk : 7 < k) : ∀ b : List S78, ∃ r, impl_ArePairs.g k l b = some r ∧ (r = true ↔ (∀ x ∈ b, (0 ≤ x.f0 ∧ x.f0 ≤ 5) ∧ (0 ≤ x.f1 ∧ x.f1 ≤ 5) ∧ ¬ reach l x.f0 x.f0) ∧ (l.length : Int) ≤ 10) := by
  intro b
  induction b with
  | nil => exact ⟨_, rfl, by simp⟩
  | cons x b ih =>
    obtain ⟨r, e, hr⟩ := ih
    rw [impl_ArePairs.g]
    by_cases h0 : 0 ≤ x.f0 ∧ x.f0 ≤ 5
    · rw [if_pos h0]
      by_cases h1 : 0 ≤ x.f1 ∧ x.f1 ≤ 5
      · rw [if_pos h1]
        obtain ⟨bs, hb, hl6, hi⟩ := below2 l hl x.f0 k hk
        rw [hb, Option.bind_some, if_pos hl6]
        have h2 := hi x.f0.toNat
        rw [Int.toNat_of_nonneg h0.1] at h2
        by_cases hx : bs.getD x.f0.toNat false = true
        · rw [if_pos hx]
          exact ⟨false, rfl, by simp [h2.1 hx]⟩
        · rw [if_neg hx]
          refine ⟨r, e, ?_⟩
          rw [hr]
          constructor
          · rintro ⟨g, g'⟩
            refine ⟨fun y hy => ?_, g'⟩
            rcases List.mem_cons.1 hy with rfl | hy
            · exact ⟨h0, h1, fun q => hx (h2.2 q)⟩
            · exact g y hy
          · rintro ⟨g, g'⟩
            exact ⟨fun y hy => g y (List.mem_cons_of_mem _ hy), g'⟩
      · rw [if_neg h1]
        exact ⟨false, rfl, by simp [h1]⟩
    · rw [if_neg h0]
      exact ⟨false, rfl, by simp [h0]⟩
theorem pairs2 (l : List S78) (hl : l.length ≤ 1048576) (k : Nat) (hk : 7 < k) : impl_ArePairs.f k l = some (arePairs l) := by
  obtain ⟨r, e, hr⟩ := pairs_g l hl k hk l
  unfold impl_ArePairs.f
  rw [e]
  refine congrArg some ?_
  rw [Bool.eq_iff_iff, hr]
  unfold arePairs
  rw [Bool.and_eq_true, wellMade_iff, decide_eq_true_eq]
/-- Two lists in strictly ascending order with the same members are one list. -/
theorem strict_ext : ∀ (a b : List Int), a.Pairwise (· < ·) → b.Pairwise (· < ·) → (∀ x, x ∈ a ↔ x ∈ b) → a = b := by
  intro a
  induction a with
  | nil =>
    intro b _ _ h
    cases b with
    | nil => rfl
    | cons y b => exact absurd ((h y).2 (List.mem_cons_self)) (by simp)
  | cons x a ih =>
    intro b ha hb h
    cases b with
    | nil => exact absurd ((h x).1 (List.mem_cons_self)) (by simp)
    | cons y b =>
      rw [List.pairwise_cons] at ha hb
      have hxy : x = y := by
        rcases List.mem_cons.1 ((h x).1 (List.mem_cons_self)) with e | e
        · exact e
        · rcases List.mem_cons.1 ((h y).2 (List.mem_cons_self)) with e2 | e2
          · exact e2.symm
          · have g1 := hb.1 x e
            have g2 := ha.1 y e2
            omega
      subst hxy
      congr 1
      refine ih b ha.2 hb.2 fun z => ⟨fun hz => ?_, fun hz => ?_⟩
      · rcases List.mem_cons.1 ((h z).1 (List.mem_cons_of_mem _ hz)) with e | e
        · have := ha.1 z hz
          omega
        · exact e
      · rcases List.mem_cons.1 ((h z).2 (List.mem_cons_of_mem _ hz)) with e | e
        · have := hb.1 z hz
          omega
        · exact e
theorem upTo_mem (d : Array Int) (m : Nat) (x : Int) : x ∈ Go.Lib.compactUpTo d m ↔ ∃ j, j < m ∧ d[j]! = x := by
  induction m with
  | zero => simp [Go.Lib.compactUpTo]
  | succ m ih =>
    rw [Go.Lib.compactUpTo_succ, List.mem_append, ih]
    constructor
    · rintro (⟨j, hj, e⟩ | h)
      · exact ⟨j, by omega, e⟩
      · split at h
        · exact ⟨m, by omega, (List.mem_singleton.1 h).symm⟩
        · cases h
    · rintro ⟨j, hj, e⟩
      rcases Nat.lt_or_ge j m with h | h
      · exact .inl ⟨j, h, e⟩
      · obtain rfl : j = m := by omega
        by_cases hk : Go.Lib.keeps d j = true
        · rw [if_pos hk]
          exact .inr (by simp [e])
        · unfold Go.Lib.keeps at hk
          simp only [decide_eq_true_eq, not_or, Decidable.not_not] at hk
          exact .inl ⟨j - 1, by omega, by rw [← hk.2]; exact e⟩
theorem upTo_strict (d : Array Int) (m : Nat) (h : ∀ i j, i ≤ j → j < m → d[i]! ≤ d[j]!) : (Go.Lib.compactUpTo d m).Pairwise (· < ·) := by
  induction m with
  | zero => simp [Go.Lib.compactUpTo]
  | succ m ih =>
    rw [Go.Lib.compactUpTo_succ]
    split
    · rename_i hk
      rw [List.pairwise_append]
      refine ⟨ih (fun i j h1 h2 => h i j h1 (by omega)), List.pairwise_singleton _ _, fun x hx y hy => ?_⟩
      rw [List.mem_singleton] at hy
      subst hy
      obtain ⟨j, hj, rfl⟩ := (upTo_mem d m x).1 hx
      unfold Go.Lib.keeps at hk
      simp only [decide_eq_true_eq] at hk
      have g1 := h j (m - 1) (by omega) (by omega)
      have g2 := h (m - 1) m (by omega) (by omega)
      rcases hk with hk | hk
      · omega
      · omega
    · rw [List.append_nil]
      exact ih (fun i j h1 h2 => h i j h1 (by omega))
theorem compact_sorted (l : List Int) : (Go.Lib.compact (l.mergeSort fun x y => decide (x ≤ y))).Pairwise (· < ·) ∧ ∀ x, x ∈ Go.Lib.compact (l.mergeSort fun x y => decide (x ≤ y)) ↔ x ∈ l := by
  have hs : (l.mergeSort fun x y => decide (x ≤ y)).Pairwise fun x y => decide (x ≤ y) = true := List.pairwise_mergeSort (fun a b c h1 h2 => by simp only [decide_eq_true_eq] at *; omega) (fun a b => by simp only [Bool.or_eq_true, decide_eq_true_eq]; omega) l
  have hm : ∀ x, x ∈ (l.mergeSort fun x y => decide (x ≤ y)) ↔ x ∈ l := fun x => List.mem_mergeSort
  generalize (l.mergeSort fun x y => decide (x ≤ y)) = s at hs hm
  unfold Go.Lib.compact
  have hg : ∀ i, i < s.length → s.toArray[i]! = s.getD i 0 := fun i hi => by
    rw [getElem!_pos s.toArray i (by simpa using hi), getD_get s i 0 hi]
    rfl
  constructor
  · refine upTo_strict _ _ fun i j h1 h2 => ?_
    rw [hg i (by omega), hg j h2, getD_get s i 0 (by omega), getD_get s j 0 h2]
    rcases Nat.lt_or_ge i j with h3 | h3
    · have := List.pairwise_iff_getElem.1 hs i j (by omega) h2 h3
      simpa using this
    · obtain rfl : i = j := by omega
      exact Int.le_refl _
  · intro x
    rw [upTo_mem, ← hm x]
    constructor
    · rintro ⟨j, hj, rfl⟩
      rw [hg j hj]
      exact getD_mem s j 0 hj
    · intro hx
      obtain ⟨j, hj, e⟩ := List.getElem_of_mem hx
      exact ⟨j, hj, by rw [hg j hj, getD_get s j 0 hj]; exact e⟩
def roleIs (p now age : Int) (x : S75) : Bool := decide (x.f0 = 1) && (decide (x.f1 = p) && holds x.f0 x.f1 x.f2 x.f3 x.f4 x.f5 now age)
def rolesRaw (l : List S78) (s : List S75) (p now age : Int) : List Int := ((s.filter (roleIs p now age)).map fun x => under l x.f2).flatten
def rolesOf (l : List S78) (s : List S75) (p now age : Int) : List Int := marked (fun r => decide ((r : Int) ∈ rolesRaw l s p now age)) 6
theorem rolesOf_len (l : List S78) (s : List S75) (p now age : Int) : (rolesOf l s p now age).length ≤ 6 := marked_len _ _
theorem rolesRaw_step (l : List S78) (s : List S75) (p now age : Int) (i : Nat) (hi : i < s.length) : rolesRaw l (s.take (i + 1)) p now age = if roleIs p now age (s.getD i z75) = true then rolesRaw l (s.take i) p now age ++ under l (s.getD i z75).f2 else rolesRaw l (s.take i) p now age := by
  unfold rolesRaw
  rw [List.take_succ_eq_append_getElem hi, List.filter_append, List.map_append, List.flatten_append, getD_get s i _ hi]
  by_cases h : roleIs p now age s[i] = true
  · rw [if_pos h]
    simp [h]
  · rw [if_neg h]
    simp [h]
theorem rolesRaw_len (l : List S78) (s : List S75) (p now age : Int) : (rolesRaw l s p now age).length ≤ 6 * s.length := by
  unfold rolesRaw
  induction s with
  | nil => simp
  | cons x t ih =>
    rw [List.filter_cons]
    have := under_len l x.f2
    split
    · rw [List.map_cons, List.flatten_cons, List.length_append, List.length_cons]
      omega
    · rw [List.length_cons]
      omega
theorem rolesRaw_in (l : List S78) (s : List S75) (p now age : Int) (c : Int) (h : c ∈ rolesRaw l s p now age) : 0 ≤ c ∧ c ≤ 5 := by
  unfold rolesRaw at h
  obtain ⟨u, hu, hc⟩ := List.mem_flatten.1 h
  obtain ⟨x, _, rfl⟩ := List.mem_map.1 hu
  exact ((under_mem l x.f2 c).1 hc).2.1
theorem marked_mem (p : Nat → Bool) (n : Nat) (c : Int) : c ∈ marked p n ↔ ∃ i : Nat, i < n ∧ p i = true ∧ (i : Int) = c := by
  unfold marked
  simp only [List.mem_map, List.mem_filter, List.mem_range]
  constructor
  · rintro ⟨i, ⟨h1, h2⟩, h3⟩
    exact ⟨i, h1, h2, h3⟩
  · rintro ⟨i, h1, h2, h3⟩
    exact ⟨i, ⟨h1, h2⟩, h3⟩
theorem marked_strict (p : Nat → Bool) (n : Nat) : (marked p n).Pairwise (· < ·) := by
  unfold marked
  rw [List.pairwise_map]
  refine List.Pairwise.filter _ (List.pairwise_lt_range.imp fun h => ?_)
  omega
theorem rolesOf_mem (l : List S78) (s : List S75) (p now age : Int) (c : Int) : c ∈ rolesOf l s p now age ↔ c ∈ rolesRaw l s p now age := by
  unfold rolesOf
  rw [marked_mem]
  constructor
  · rintro ⟨i, _, h, rfl⟩
    exact of_decide_eq_true h
  · intro h
    have := rolesRaw_in l s p now age c h
    refine ⟨c.toNat, by omega, decide_eq_true ?_, Int.toNat_of_nonneg this.1⟩
    rwa [Int.toNat_of_nonneg this.1]
theorem rolesOf_eq (l : List S78) (s : List S75) (p now age : Int) : Go.Lib.compact ((rolesRaw l s p now age).mergeSort fun x y => decide (x ≤ y)) = rolesOf l s p now age := by
  obtain ⟨h1, h2⟩ := compact_sorted (rolesRaw l s p now age)
  refine strict_ext _ _ h1 (marked_strict _ _) fun x => ?_
  rw [h2 x]
  exact (rolesOf_mem l s p now age x).symm
theorem rolesOf2 (l : List S78) (s : List S75) (p now age : Int) (hl : l.length ≤ 1048576) (hs : s.length ≤ 1048576) (k : Nat) (hk : 1048600 < k) : impl_RolesOf.f k l s p now age = some (rolesOf l s p now age) := by
  unfold impl_RolesOf.f
  refine run (fun k st i => impl_RolesOf.l0 k l p now age st s (s.length : Int) i) (fun i => rolesRaw l (s.take i) p now age) s.length 10 _ ?_ ?_ k (by omega)
  · intro k i hB hi
    have hlen := rolesRaw_len l (s.take i) p now age
    have hti : (s.take i).length ≤ i := by rw [List.length_take]; omega
    have hu := under_len l (s.getD i z75).f2
    simp only [impl_RolesOf.l0, rdT75, holds2, Option.bind_some]
    rw [if_pos (by omega), if_pos (by omega), if_pos (by omega), wrap_succ hi (by omega), rolesRaw_step l s p now age i hi]
    generalize s.getD i z75 = x at hu ⊢
    unfold roleIs
    by_cases h0 : x.f0 = 1
    · by_cases h1 : x.f1 = p
      · rw [if_pos h0, if_pos h1, decide_eq_true h0, decide_eq_true h1]
        simp only [Bool.true_and]
        by_cases h3 : holds x.f0 x.f1 x.f2 x.f3 x.f4 x.f5 now age = true
        · rw [if_pos h3, if_pos h3, under2 l hl _ k (by omega), Option.bind_some, if_pos (by omega)]
        · rw [if_neg h3, if_neg h3]
      · rw [if_pos h0, if_neg h1, decide_eq_false h1]
        simp
    · rw [if_neg h0, decide_eq_false h0]
      simp
  · intro k _
    simp only [impl_RolesOf.l0]
    have hlen := rolesRaw_len l (s.take s.length) p now age
    have hti : (s.take s.length).length ≤ s.length := by simp
    rw [if_neg (by omega), slices_Sort_int_int.f, if_pos (by omega), Option.bind_some, slices_Compact_int_int.f, Option.bind_some, List.take_length]
    exact congrArg some (rolesOf_eq l s p now age)
def setT (m : List Bool) (r : Int) : List Bool := m.set r.toNat true
theorem setT_fold (u : List Int) : ∀ ms : List Bool, ms.length = 6 → (∀ c ∈ u, 0 ≤ c ∧ c ≤ 5) → (u.foldl setT ms).length = 6 ∧ ∀ i : Nat, (u.foldl setT ms).getD i false = true ↔ ms.getD i false = true ∨ (i : Int) ∈ u := by
  induction u with
  | nil => intro ms h _; exact ⟨h, fun i => by simp⟩
  | cons c u ih =>
    intro ms h hu
    have hc := hu c List.mem_cons_self
    obtain ⟨g1, g2⟩ := ih (setT ms c) (by unfold setT; simpa using h) (fun d hd => hu d (List.mem_cons_of_mem _ hd))
    rw [List.foldl_cons]
    refine ⟨g1, fun i => ?_⟩
    rw [g2 i]
    unfold setT
    rw [getD_set_iff ms c.toNat i (by omega), List.mem_cons]
    constructor
    · rintro ((q | q) | q)
      · exact .inl q
      · exact .inr (.inl (by omega))
      · exact .inr (.inr q)
    · rintro (q | q | q)
      · exact .inl (.inl q)
      · exact .inl (.inr (by omega))
      · exact .inr q
def roleMarks (l : List S78) (s : List S75) (p now age : Int) (ms : List Bool) : List Bool := s.foldl (fun m x => if roleIs p now age x = true then (under l x.f2).foldl setT m else m) ms
theorem roleMarks_iff (l : List S78) (p now age : Int) (s : List S75) : ∀ ms : List Bool, ms.length = 6 → (roleMarks l s p now age ms).length = 6 ∧ ∀ i : Nat, (roleMarks l s p now age ms).getD i false = true ↔ ms.getD i false = true ∨ (i : Int) ∈ rolesRaw l s p now age := by
  induction s with
  | nil => intro ms h; exact ⟨h, fun i => by simp [roleMarks, rolesRaw]⟩
  | cons x t ih =>
    intro ms h
    have hr : rolesRaw l (x :: t) p now age = if roleIs p now age x = true then under l x.f2 ++ rolesRaw l t p now age else rolesRaw l t p now age := by
      unfold rolesRaw
      rw [List.filter_cons]
      split
      · rw [List.map_cons, List.flatten_cons]
      · rfl
    have hm : roleMarks l (x :: t) p now age ms = roleMarks l t p now age (if roleIs p now age x = true then (under l x.f2).foldl setT ms else ms) := rfl
    rw [hm, hr]
    by_cases q : roleIs p now age x = true
    · rw [if_pos q, if_pos q]
      obtain ⟨f1, f2⟩ := setT_fold (under l x.f2) ms h (fun c hc => ((under_mem l x.f2 c).1 hc).2.1)
      obtain ⟨g1, g2⟩ := ih _ f1
      refine ⟨g1, fun i => ?_⟩
      rw [g2 i, f2 i, List.mem_append, or_assoc]
    · rw [if_neg q, if_neg q]
      exact ih ms h
theorem hasRole2 (l : List S78) (s : List S75) (p r now age : Int) (hl : l.length ≤ 1048576) (hs : s.length ≤ 1048576) (k : Nat) (hk : 1048600 < k) : impl_HasRole.f k l s p r now age = some (has (rolesOf l s p now age) r) := by
  have := rolesOf_len l s p now age
  unfold impl_HasRole.f
  rw [rolesOf2 l s p now age hl hs k hk, Option.bind_some, has2 _ _ (by omega) k (by omega), Option.bind_some]
def topS (l : List S78) : Nat → Int → List Int → List Int
  | 0, _, out => out
  | d + 1, v, out => topS l d (v + 1) (if (l.all fun x => x.f1 != v) = true then out ++ [v] else out)
theorem topS_len (l : List S78) (d : Nat) : ∀ v out, (topS l d v out).length ≤ out.length + d := by
  induction d with
  | zero => intro v out; exact Nat.le_refl _
  | succ d ih =>
    intro v out
    rw [topS]
    split
    · have := ih (v + 1) (out ++ [v])
      rw [List.length_append] at this
      simp at this
      omega
    · have := ih (v + 1) out
      omega
theorem topIdx (l : List S78) (v : Int) : (0 ≤ impl_TopRoles.idx (impl_TopRoles.out v) l) ↔ ¬ (l.all fun x => x.f1 != v) = true := by
  unfold impl_TopRoles.idx
  cases hf : (List.range l.length).find? fun i => impl_TopRoles.out v (l.getD i z78) with
  | none =>
    rw [List.find?_eq_none] at hf
    constructor
    · intro h
      exact absurd h (by decide)
    · intro h
      refine absurd ?_ h
      rw [List.all_eq_true]
      intro x hx
      obtain ⟨i, hi, rfl⟩ := List.mem_iff_getElem.1 hx
      have := hf i (List.mem_range.2 hi)
      rw [getD_get l i _ hi] at this
      simpa [impl_TopRoles.out] using this
  | some i =>
    rw [List.find?_range_eq_some] at hf
    constructor
    · intro _ h
      rw [List.all_eq_true] at h
      have hi : i < l.length := by simpa using hf.2.1
      have h1 := h _ (List.getElem_mem hi)
      have h2 := hf.1
      rw [getD_get l i _ hi] at h2
      simp only [impl_TopRoles.out] at h2
      simp only [bne, h2] at h1
      cases h1
    · intro _
      exact Int.natCast_nonneg i
theorem top2 (l : List S78) : impl_TopRoles.f l = some (topS l 6 0 []) := by
  have key : ∀ d v out, impl_TopRoles.g l d v out = topS l d v out := by
    intro d
    induction d with
    | zero => intro v out; rfl
    | succ d ih =>
      intro v out
      rw [impl_TopRoles.g, topS, ih]
      by_cases h : (l.all fun x => x.f1 != v) = true
      · rw [if_pos h, if_neg (fun q => (topIdx l v).1 q h)]
      · rw [if_neg h, if_pos ((topIdx l v).2 h)]
  unfold impl_TopRoles.f
  rw [key]
theorem and255 (x : Int) : 0 ≤ Go.bits .and .i64 x 255 ∧ Go.bits .and .i64 x 255 ≤ 255 := by
  unfold Go.bits
  simp only
  have h : (BitVec.ofInt IntKind.i64.bits x &&& BitVec.ofInt IntKind.i64.bits 255).toNat ≤ 255 := by
    rw [BitVec.toNat_and]
    exact Nat.le_trans Nat.and_le_right (by decide)
  rw [IntKind.wrap_i64]
  omega
/-- What a draw gives: something, and the place is still one of the list. -/
def Drawn {α : Type} (l : List Int) (r : Option (α × Int × Int)) (Q : α → Prop) : Prop := ∃ v i h, r = some (v, i, h) ∧ Q v ∧ 0 ≤ i ∧ i ≤ (l.length : Int)
theorem dByte (l : List Int) (hl : l.length ≤ 1048576) (i h : Int) (h0 : 0 ≤ i) (h1 : i ≤ (l.length : Int)) : Drawn l (spec_l1Byte.f l i h) fun v => 0 ≤ v ∧ v ≤ 255 := by
  unfold spec_l1Byte.f
  by_cases c : i < (l.length : Int)
  · rw [if_pos c, if_pos h0, wrap_in (x := i + 1) (by omega) (by omega)]
    exact ⟨_, _, _, rfl, and255 _, by omega, by omega⟩
  · rw [if_neg c]
    exact ⟨_, _, _, rfl, and255 _, by omega, by omega⟩
theorem dBelow (l : List Int) (hl : l.length ≤ 1048576) (i h : Int) (h0 : 0 ≤ i) (h1 : i ≤ (l.length : Int)) (n : Int) (hn : 0 < n) : Drawn l (spec_l1Below.f l i h n) fun v => 0 ≤ v ∧ v < n := by
  unfold spec_l1Below.f
  rw [if_neg (by omega)]
  by_cases c : n ≤ 256
  · rw [if_pos c]
    obtain ⟨v, i1, s1, e, ⟨g0, _⟩, p0, p1⟩ := dByte l hl i h h0 h1
    rw [e, Option.bind_some, if_neg (by omega)]
    exact ⟨_, _, _, rfl, ⟨Int.tmod_nonneg _ g0, Int.tmod_lt_of_pos _ hn⟩, p0, p1⟩
  · rw [if_neg c]
    obtain ⟨v, i1, s1, e, ⟨g0, g1⟩, p0, p1⟩ := dByte l hl i h h0 h1
    obtain ⟨v2, i2, s2, e2, ⟨g2, g3⟩, p2, p3⟩ := dByte l hl i1 s1 p0 p1
    obtain ⟨v3, i3, s3, e3, ⟨g4, g5⟩, p4, p5⟩ := dByte l hl i2 s2 p2 p3
    simp only [e, e2, e3, Option.bind_some]
    rw [if_neg (by omega), wrap_in (x := v * 65536) (by omega) (by omega), wrap_in (x := v2 * 256) (by omega) (by omega), wrap_in (x := v * 65536 + v2 * 256) (by omega) (by omega), wrap_in (by omega) (by omega)]
    exact ⟨_, _, _, rfl, ⟨Int.tmod_nonneg _ (by omega), Int.tmod_lt_of_pos _ hn⟩, p4, p5⟩
theorem dInt (l : List Int) (hl : l.length ≤ 1048576) (i h : Int) (h0 : 0 ≤ i) (h1 : i ≤ (l.length : Int)) (c : List Int) (hc : 0 < c.length) : Drawn l (spec_l1Int.f l i h c) fun v => v ∈ c := by
  unfold spec_l1Int.f
  obtain ⟨v, i1, s1, e, ⟨g0, g1⟩, p0, p1⟩ := dBelow l hl i h h0 h1 (c.length : Int) (by omega)
  rw [e, Option.bind_some, if_pos g0, if_pos g1]
  refine ⟨_, _, _, rfl, ?_, p0, p1⟩
  unfold rd
  exact getD_mem c _ 0 (by omega)
def seedOf (l : List Int) : Nat → Int
  | 0 => wrap64 (193017 + (l.length : Int))
  | i + 1 => Go.bits .and .i64 (wrap64 ((wrap64 ((wrap64 (seedOf l i * 137)) + (wrap64 (l.getD i 0)))) + 11)) 1073741823
theorem new1 (l : List Int) (hl : l.length ≤ 1048576) (k : Nat) (hk : 1048577 < k) : spec_l1New.f k l = some (l, 0, seedOf l (min l.length 4000)) := by
  unfold spec_l1New.f
  refine run (fun k s i => spec_l1New.l0 k l s i) (seedOf l) (min l.length 4000) 0 _ ?_ ?_ k (by omega)
  · intro k i _ hi
    simp only [spec_l1New.l0, rd_nat]
    rw [if_pos (by omega), if_pos (by omega), if_pos (by omega), wrap_succ hi (by omega)]
    rfl
  · intro k _
    simp only [spec_l1New.l0]
    by_cases c : l.length < 4000
    · rw [Nat.min_eq_left (by omega), if_neg (by omega)]
    · rw [Nat.min_eq_right (by omega)]
      split
      · rw [if_neg (by omega)]
      · rfl
theorem dName (l : List Int) (hl : l.length ≤ 1048576) (i h : Int) (h0 : 0 ≤ i) (h1 : i ≤ (l.length : Int)) (a : Int) : Drawn l (spec_l5Name.f l i h a) fun _ => True := by
  unfold spec_l5Name.f
  obtain ⟨v, i1, s1, e, _, p0, p1⟩ := dBelow l hl i h h0 h1 3 (by omega)
  rw [e, Option.bind_some]
  exact ⟨_, _, _, rfl, trivial, p0, p1⟩
def DrawnF (l : List Int) (r : Option (Int × Int × Int × Int × Int × Int × Int × Int)) : Prop := ∃ a b c d e f i h, r = some (a, b, c, d, e, f, i, h) ∧ 0 ≤ i ∧ i ≤ (l.length : Int)
theorem dFact (l : List Int) (hl : l.length ≤ 1048576) (i h : Int) (h0 : 0 ≤ i) (h1 : i ≤ (l.length : Int)) : DrawnF l (spec_l6Fact.f l i h) := by
  unfold spec_l6Fact.f
  obtain ⟨v, i, h, e, _, h0, h1⟩ := dBelow l hl i h h0 h1 4 (by omega)
  simp only [e, Option.bind_some]
  clear e
  obtain ⟨v2, i, h, e, _, h0, h1⟩ := dBelow l hl i h h0 h1 3 (by omega)
  simp only [e, Option.bind_some]
  clear e
  obtain ⟨v3, i, h, e, _, h0, h1⟩ := dBelow l hl i h h0 h1 20 (by omega)
  simp only [e, Option.bind_some]
  clear e
  obtain ⟨v4, i, h, e, _, h0, h1⟩ := dBelow l hl i h h0 h1 30 (by omega)
  simp only [e, Option.bind_some]
  clear e
  generalize wrap64 (1 + v) = q
  by_cases c1 : q = 1
  · rw [if_pos c1]
    obtain ⟨v5, i, h, e, _, h0, h1⟩ := dName l hl i h h0 h1 1
    simp only [e, Option.bind_some]
    clear e
    obtain ⟨v6, i, h, e, _, h0, h1⟩ := dBelow l hl i h h0 h1 4 (by omega)
    simp only [e, Option.bind_some]
    exact ⟨_, _, _, _, _, _, _, _, rfl, h0, h1⟩
  rw [if_neg c1]
  by_cases c2 : q = 2
  · rw [if_pos c2]
    obtain ⟨v5, i, h, e, _, h0, h1⟩ := dName l hl i h h0 h1 1
    simp only [e, Option.bind_some]
    clear e
    obtain ⟨v6, i, h, e, _, h0, h1⟩ := dName l hl i h h0 h1 2
    simp only [e, Option.bind_some]
    exact ⟨_, _, _, _, _, _, _, _, rfl, h0, h1⟩
  rw [if_neg c2]
  by_cases c3 : q = 3
  · rw [if_pos c3]
    obtain ⟨v5, i, h, e, _, h0, h1⟩ := dName l hl i h h0 h1 2
    simp only [e, Option.bind_some]
    clear e
    obtain ⟨v6, i, h, e, _, h0, h1⟩ := dBelow l hl i h h0 h1 4 (by omega)
    simp only [e, Option.bind_some]
    exact ⟨_, _, _, _, _, _, _, _, rfl, h0, h1⟩
  rw [if_neg c3]
  obtain ⟨v5, i, h, e, _, h0, h1⟩ := dName l hl i h h0 h1 3
  simp only [e, Option.bind_some]
  clear e
  obtain ⟨v6, i, h, e, _, h0, h1⟩ := dBelow l hl i h h0 h1 4 (by omega)
  simp only [e, Option.bind_some]
  exact ⟨_, _, _, _, _, _, _, _, rfl, h0, h1⟩
theorem beforeTot (a b c d e f a' b' c' d' e' f' : Int) : ∃ t, spec_FactBefore.f a b c d e f a' b' c' d' e' f' = some t := by
  unfold spec_FactBefore.f
  repeat' split
  all_goals exact ⟨_, rfl⟩
theorem sameTot (a b c d e f a' b' c' d' e' f' : Int) : ∃ t, spec_SameClaim.f a b c d e f a' b' c' d' e' f' = some t := by
  unfold spec_SameClaim.f
  repeat' split
  all_goals exact ⟨_, rfl⟩
theorem storeTot (l : List S75) (hl : l.length ≤ 30) (d : Nat) : ∀ (i k : Nat), i + d = l.length → d < k → ∃ t, spec_IsStore.l0 k l (i : Int) = some t := by
  induction d with
  | zero =>
    intro i k hi hk
    obtain ⟨k, rfl⟩ : ∃ m, k = m + 1 := ⟨k - 1, by omega⟩
    simp only [spec_IsStore.l0]
    rw [if_neg (by omega)]
    exact ⟨_, rfl⟩
  | succ d ih =>
    intro i k hi hk
    obtain ⟨k, rfl⟩ : ∃ m, k = m + 1 := ⟨k - 1, by omega⟩
    obtain ⟨t, e⟩ := ih (i + 1) k (by omega) (by omega)
    simp only [spec_IsStore.l0, fact1, Option.bind_some]
    rw [if_pos (by omega), if_pos (by omega), wrap_succ (show i < l.length by omega) (by omega), e]
    split
    · rcases Nat.eq_zero_or_pos i with h0 | h0
      · rw [if_neg (by omega)]
        exact ⟨_, rfl⟩
      · rw [if_pos (by omega), wrap_pred h0 (show i < l.length by omega) (by omega), if_pos (by omega), if_pos (by omega)]
        obtain ⟨u, e2⟩ := beforeTot (rd_T75 l ((i - 1 : Nat) : Int)).f0 (rd_T75 l ((i - 1 : Nat) : Int)).f1 (rd_T75 l ((i - 1 : Nat) : Int)).f2 (rd_T75 l ((i - 1 : Nat) : Int)).f3 (rd_T75 l ((i - 1 : Nat) : Int)).f4 (rd_T75 l ((i - 1 : Nat) : Int)).f5 (rd_T75 l (i : Int)).f0 (rd_T75 l (i : Int)).f1 (rd_T75 l (i : Int)).f2 (rd_T75 l (i : Int)).f3 (rd_T75 l (i : Int)).f4 (rd_T75 l (i : Int)).f5
        rw [e2, Option.bind_some]
        split <;> exact ⟨_, rfl⟩
    · exact ⟨_, rfl⟩
theorem copyFact (l : List S75) (hl : l.length ≤ 1000) : spec_l7Copy.f l = some l := by
  unfold spec_l7Copy.f
  rw [Option.bind_some, if_pos (by simp; omega), List.nil_append]
theorem putLoop (l : List S75) (hl : l.length ≤ 30) (a b c d e f : Int) (n : Nat) : ∀ (i : Nat) (out : List S75) (seen : Bool) (k : Nat), i + n = l.length → out.length ≤ 2 * i → 3 * n + 2 < k → ∃ o q, spec_PutFact.l0 k l out seen (i : Int) a b c d e f = some (o, q) ∧ o.length ≤ 30 := by
  induction n with
  | zero =>
    intro i out seen k hi ho hk
    obtain ⟨k, rfl⟩ : ∃ m, k = m + 1 := ⟨k - 1, by omega⟩
    simp only [spec_PutFact.l0, copyFact l (by omega), Option.bind_some]
    rw [if_neg (by omega)]
    cases seen with
    | true =>
      rw [if_pos rfl]
      split
      · exact ⟨_, _, rfl, hl⟩
      · exact ⟨_, _, rfl, by omega⟩
    | false =>
      rw [if_neg (by simp), if_pos (by omega)]
      split
      · exact ⟨_, _, rfl, hl⟩
      · exact ⟨_, _, rfl, by omega⟩
  | succ n ih =>
    intro i out seen k hi ho hk
    obtain ⟨k, rfl⟩ : ∃ m, k = m + 1 + 1 + 1 := ⟨k - 3, by omega⟩
    have hw := wrap_succ (show i < l.length by omega) (by omega)
    have I : ∀ (o : List S75) s, o.length ≤ 2 * i + 2 → ∃ o' q, spec_PutFact.l0 k l o s ((i + 1 : Nat) : Int) a b c d e f = some (o', q) ∧ o'.length ≤ 30 := fun o s h => ih (i + 1) o s k (by omega) (by omega) (by omega)
    have J3 : ∀ (o : List S75) s, o.length ≤ 2 * i + 1 → ∃ o' q, spec_PutFact.j3 (k + 1) l o s (i : Int) a b c d e f = some (o', q) ∧ o'.length ≤ 30 := by
      intro o s h
      obtain ⟨t, et⟩ := sameTot a b c d e f (rd_T75 l (i : Int)).f0 (rd_T75 l (i : Int)).f1 (rd_T75 l (i : Int)).f2 (rd_T75 l (i : Int)).f3 (rd_T75 l (i : Int)).f4 (rd_T75 l (i : Int)).f5
      have L : (o.length < 2932031007402) = True := eq_true (by omega)
      simp only [spec_PutFact.j3, et, Option.bind_some, hw, L, if_true]
      rw [if_pos (by omega), if_pos (by omega)]
      have I1 : ∀ x s, ∃ o' q, spec_PutFact.l0 k l (o ++ [x]) s ((i + 1 : Nat) : Int) a b c d e f = some (o', q) ∧ o'.length ≤ 30 := fun x s => I _ s (by rw [List.length_append]; simp; omega)
      repeat' split
      all_goals exact I1 _ _
    have J2 : ∀ t, ∃ o' q, spec_PutFact.j2 (k + 1 + 1) l out seen (i : Int) t a b c d e f = some (o', q) ∧ o'.length ≤ 30 := by
      intro t
      have L : (out.length < 2932031007402) = True := eq_true (by omega)
      simp only [spec_PutFact.j2, L, if_true]
      split
      · exact J3 _ _ (by rw [List.length_append]; simp; omega)
      · exact J3 _ _ (by omega)
    obtain ⟨t, et⟩ := beforeTot a b c d e f (rd_T75 l (i : Int)).f0 (rd_T75 l (i : Int)).f1 (rd_T75 l (i : Int)).f2 (rd_T75 l (i : Int)).f3 (rd_T75 l (i : Int)).f4 (rd_T75 l (i : Int)).f5
    simp only [spec_PutFact.l0, et, Option.bind_some]
    rw [if_pos (by omega)]
    split
    · exact J2 _
    · rw [if_pos (by omega)]
      exact J2 _
theorem putTot (l : List S75) (hl : l.length ≤ 30) (a b c d e f : Int) (k : Nat) (hk : 200 < k) : ∃ o q, spec_PutFact.f k l a b c d e f = some (o, q) ∧ o.length ≤ 30 := by
  obtain ⟨k, rfl⟩ : ∃ m, k = m + 1 := ⟨k - 1, by omega⟩
  have J : ∀ t, ∃ o q, spec_PutFact.j0 (k + 1) l t a b c d e f = some (o, q) ∧ o.length ≤ 30 := by
    intro t
    simp only [spec_PutFact.j0, copyFact l (by omega), Option.bind_some]
    split
    · exact ⟨_, _, rfl, hl⟩
    · exact putLoop l hl a b c d e f l.length 0 [] false k (by omega) (by simp) (by omega)
  obtain ⟨t, et⟩ := storeTot l hl l.length 0 (k + 1) (by omega) (by omega)
  unfold spec_PutFact.f spec_IsStore.f
  rw [show (0 : Int) = ((0 : Nat) : Int) from rfl, et, Option.bind_some, fact1, Option.bind_some]
  split <;> exact J _
theorem store_loop (l : List Int) (hl : l.length ≤ 1048576) (d : Nat) : ∀ (out : List S75) (k : Nat) (i h : Int), d ≤ 1000 → 0 ≤ i → i ≤ (l.length : Int) → out.length ≤ 30 → d + 300 < k → Drawn l (spec_l7Store.l0 k out (d : Int) l i h) fun v => v.length ≤ 30 := by
  induction d with
  | zero =>
    intro out k i h _ h0 h1 ho hk
    obtain ⟨k, rfl⟩ : ∃ m, k = m + 1 := ⟨k - 1, by omega⟩
    simp only [spec_l7Store.l0]
    rw [if_neg (by omega)]
    exact ⟨_, _, _, rfl, ho, h0, h1⟩
  | succ d ih =>
    intro out k i h hd h0 h1 ho hk
    obtain ⟨k, rfl⟩ : ∃ m, k = m + 1 := ⟨k - 1, by omega⟩
    simp only [spec_l7Store.l0]
    rw [if_pos (by omega)]
    obtain ⟨a, b, c, x, y, z, i, h, e, h0, h1⟩ := dFact l hl i h h0 h1
    simp only [e, Option.bind_some]
    clear e
    obtain ⟨o, q, e, hq⟩ := putTot out ho a b c x y z k (by omega)
    simp only [e, Option.bind_some]
    clear e
    rw [wrap_in (x := ((d + 1 : Nat) : Int) - 1) (by omega) (by omega), show ((d + 1 : Nat) : Int) - 1 = (d : Int) by omega]
    exact ih o k i h (by omega) h0 h1 hq (by omega)
theorem dStore (l : List Int) (hl : l.length ≤ 1048576) (i h : Int) (h0 : 0 ≤ i) (h1 : i ≤ (l.length : Int)) (k : Nat) (hk : 1000 < k) : Drawn l (spec_l7Store.f k l i h) fun v => v.length ≤ 30 := by
  unfold spec_l7Store.f
  obtain ⟨v, i, h, e, ⟨g0, g1⟩, h0, h1⟩ := dBelow l hl i h h0 h1 10 (by omega)
  simp only [e, Option.bind_some]
  obtain ⟨n, rfl⟩ : ∃ n : Nat, v = (n : Int) := ⟨v.toNat, by omega⟩
  exact store_loop l hl n [] k i h (by omega) h0 h1 (by simp) (by omega)
theorem containsL (l : List Int) (n : Int) (hl : l.length ≤ 1099511627776) (k : Nat) (hk : l.length < k) : laws_contains.f k l n = some (has l n) := by
  unfold laws_contains.f has
  rw [findLoop (fun k i => laws_contains.l0 k l n i) l.length 0 (fun i => l.getD i 0 == n) (fun _ => true) false ?_ ?_ ?_ k (by omega)]
  · congr 1
    cases hf : (List.range l.length).find? fun i => l.getD i 0 == n with
    | none =>
      rw [List.find?_eq_none] at hf
      rw [eq_comm, show Option.elim none false (fun _ : Nat => true) = false from rfl, List.any_eq_false]
      exact hf
    | some i =>
      rw [List.find?_range_eq_some] at hf
      rw [eq_comm, show Option.elim (some i) false (fun _ : Nat => true) = true from rfl, List.any_eq_true]
      exact ⟨i, hf.2.1, hf.1⟩
  · intro k i _ hi hp
    have hp' : ¬ l.getD i 0 = n := by simpa using hp
    simp only [laws_contains.l0, rd_nat]
    rw [if_pos (by omega), if_pos (by omega), if_neg hp', wrap_succ hi hl]
  · intro k i _ hi hp
    have hp' : l.getD i 0 = n := by simpa using hp
    simp only [laws_contains.l0, rd_nat]
    rw [if_pos (by omega), if_pos (by omega), if_pos hp']
  · intro k _
    simp only [laws_contains.l0]
    rw [if_neg (by omega)]
theorem reach_trans {l : List S78} {a b c : Int} (h : reach l a b) (q : reach l b c) : reach l a c := by
  induction q with
  | single e => exact Relation.TransGen.tail h e
  | tail _ e ih => exact Relation.TransGen.tail ih e
theorem under_trans (l : List S78) (a b c : Int) (h : b ∈ under l a) (q : c ∈ under l b) : c ∈ under l a := by
  rw [under_mem] at h q ⊢
  refine ⟨h.1, q.2.1, ?_⟩
  rcases h.2.2 with rfl | h
  · exact q.2.2
  · rcases q.2.2 with rfl | q
    · exact .inr h
    · exact .inr (reach_trans h q)
theorem role_under (l : List S78) (s : List S75) (p now age r c : Int) (h : has (rolesOf l s p now age) r = true) (q : c ∈ under l r) : has (rolesOf l s p now age) c = true := by
  rw [has_mem, rolesOf_mem] at h ⊢
  unfold rolesRaw at h ⊢
  obtain ⟨u, hu, hr⟩ := List.mem_flatten.1 h
  obtain ⟨x, hx, rfl⟩ := List.mem_map.1 hu
  exact List.mem_flatten.2 ⟨_, List.mem_map.2 ⟨x, hx, rfl⟩, under_trans l x.f2 r c hr q⟩
theorem topS_mem (l : List S78) (d : Nat) : ∀ v out c, c ∈ topS l d v out ↔ c ∈ out ∨ ((v ≤ c ∧ c < v + (d : Int)) ∧ (l.all fun x => x.f1 != c) = true) := by
  induction d with
  | zero => intro v out c; rw [topS]; constructor
            · exact .inl
            · rintro (h | h)
              · exact h
              · omega
  | succ d ih =>
    intro v out c
    rw [topS, ih]
    by_cases hv : (l.all fun x => x.f1 != v) = true
    · rw [if_pos hv, List.mem_append, List.mem_singleton]
      constructor
      · rintro ((h | rfl) | ⟨h1, h2⟩)
        · exact .inl h
        · exact .inr ⟨by omega, hv⟩
        · exact .inr ⟨by omega, h2⟩
      · rintro (h | ⟨h1, h2⟩)
        · exact .inl (.inl h)
        · by_cases e : c = v
          · exact .inl (.inr e)
          · exact .inr ⟨by omega, h2⟩
    · rw [if_neg hv]
      constructor
      · rintro (h | ⟨h1, h2⟩)
        · exact .inl h
        · exact .inr ⟨by omega, h2⟩
      · rintro (h | ⟨h1, h2⟩)
        · exact .inl h
        · by_cases e : c = v
          · subst e
            exact absurd h2 hv
          · exact .inr ⟨by omega, h2⟩
theorem filter_le {α : Type} (p q : α → Bool) (l : List α) (h : ∀ x ∈ l, p x = true → q x = true) : (l.filter p).length ≤ (l.filter q).length := by
  induction l with
  | nil => exact Nat.le_refl _
  | cons x t ih =>
    have := ih fun y hy => h y (List.mem_cons_of_mem _ hy)
    have hx := h x List.mem_cons_self
    rw [List.filter_cons, List.filter_cons]
    cases hp : p x with
    | true =>
      rw [hx hp]
      simpa using this
    | false =>
      cases q x
      · simpa using this
      · simp
        omega
theorem filter_lt {α : Type} (p q : α → Bool) (l : List α) (h : ∀ x ∈ l, p x = true → q x = true) (a : α) (ha : a ∈ l) (hp : p a = false) (hq : q a = true) : (l.filter p).length < (l.filter q).length := by
  induction l with
  | nil => cases ha
  | cons x t ih =>
    have hx := h x List.mem_cons_self
    have ht := fun y hy => h y (List.mem_cons_of_mem x hy)
    rw [List.filter_cons, List.filter_cons]
    rcases List.mem_cons.1 ha with rfl | ha
    · have := filter_le p q t ht
      rw [hp, hq]
      simp
      omega
    · have := ih ht ha
      cases hpx : p x with
      | true =>
        rw [hx hpx]
        simpa using this
      | false =>
        cases q x
        · simpa using this
        · simp
          omega
/-- How many roles a role is under. -/
def above (l : List S78) (r : Int) : Nat := ((List.range 6).filter fun (j : Nat) => decide (r ∈ under l (j : Int))).length
theorem covered (l : List S78) (h : l.all (wellMade l) = true) : ∀ (n : Nat) (r : Int), 0 ≤ r → r ≤ 5 → above l r < n → ∃ t ∈ topS l 6 0 [], r ∈ under l t := by
  rw [wellMade_iff] at h
  intro n
  induction n with
  | zero => intro r _ _ hn; omega
  | succ n ih =>
    intro r h0 h5 hn
    have hself : r ∈ under l r := (under_mem l r r).2 ⟨⟨h0, h5⟩, ⟨h0, h5⟩, .inl rfl⟩
    by_cases ht : (l.all fun x => x.f1 != r) = true
    · exact ⟨r, (topS_mem l 6 0 [] r).2 (.inr ⟨by omega, ht⟩), hself⟩
    · obtain ⟨x, hx, hxr⟩ : ∃ x ∈ l, x.f1 = r := by
        rw [List.all_eq_true] at ht
        refine Classical.byContradiction fun q => ht fun x hx => ?_
        simp only [bne_iff_ne, ne_eq]
        exact fun e => q ⟨x, hx, e⟩
      obtain ⟨g0, g1, g2⟩ := h x hx
      have e : edge l x.f0 r := ⟨x, hx, rfl, hxr, h0, h5⟩
      have hru : r ∈ under l x.f0 := (under_mem l x.f0 r).2 ⟨g0, ⟨h0, h5⟩, .inr (Relation.TransGen.single e)⟩
      have hlt : above l x.f0 < above l r := by
        unfold above
        refine filter_lt _ _ _ (fun j _ hj => ?_) r.toNat (List.mem_range.2 (by omega)) ?_ ?_
        · exact decide_eq_true (under_trans l j x.f0 r (of_decide_eq_true hj) hru)
        · refine decide_eq_false fun q => g2 ?_
          rw [Int.toNat_of_nonneg h0, under_mem] at q
          rcases q.2.2 with q | q
          · rw [q]
            rw [q] at e
            exact Relation.TransGen.single e
          · exact reach_head e q
        · rw [Int.toNat_of_nonneg h0]
          exact decide_eq_true hself
      obtain ⟨t, ht1, ht2⟩ := ih x.f0 g0.1 g0.2 (by omega)
      exact ⟨t, ht1, under_trans l t x.f0 r ht2 hru⟩
theorem frInner (l : List S78) (hl : l.length ≤ 1048576) (top : List Int) (htl : top.length ≤ 100) (v : Int) : ∀ (b a : List Int) (c : Bool) (k : Nat), top = a ++ b → 100 ≤ k → laws_FnRoles.l2 (k + b.length + 1) l top v c (a.length : Int) = if (c || b.any fun t => has (under l t) v) = true then laws_FnRoles.l1 k l top (wrap64 (v + 1)) else some false := by
  intro b
  induction b with
  | nil =>
    intro a c k he _
    have hla : top.length = a.length := by rw [he]; simp
    simp only [laws_FnRoles.l2]
    rw [if_neg (by omega), List.any_nil, Bool.or_false]
    rfl
  | cons x r ih =>
    intro a c k he hk
    have hla : top.length = a.length + (r.length + 1) := by rw [he]; simp
    have hx' : rd top (a.length : Int) = x := by
      rw [rd_nat, he, getD_get _ _ _ (by simp), List.getElem_append_right (Nat.le_refl _)]
      simp
    have hw : wrap64 ((a.length : Int) + 1) = (((a ++ [x]).length : Nat) : Int) := by rw [List.length_append]; unfold wrap64; simp; omega
    have he' : top = (a ++ [x]) ++ r := by rw [he]; simp
    have hul := under_len l x
    rw [List.length_cons, show k + (r.length + 1) + 1 = (k + r.length + 1) + 1 by omega]
    have hn := fun c' => ih (a ++ [x]) c' k he' hk
    generalize hq : k + r.length + 1 = q at hn ⊢
    simp only [laws_FnRoles.l2, hx', hw]
    rw [if_pos (by omega)]
    cases c with
    | true =>
      rw [if_pos rfl, hn, Bool.true_or, Bool.true_or]
    | false =>
      rw [if_neg (by simp), if_pos (by omega), under2 l hl x q (by omega), Option.bind_some, containsL _ _ (by omega) q (by omega), Option.bind_some, hn, List.any_cons, Bool.false_or]
theorem frOuter (l : List S78) (hl : l.length ≤ 1048576) (top : List Int) (htl : top.length ≤ 100) (hc : ∀ v : Int, 0 ≤ v → v ≤ 5 → (top.any fun t => has (under l t) v) = true) (m : Nat) : ∀ (v : Int) (k : Nat), v + (m : Int) = 6 → 0 ≤ v → 100 ≤ k → laws_FnRoles.l1 (k + m * (top.length + 2) + 1) l top v = some true := by
  induction m with
  | zero =>
    intro v k hv _ _
    rw [Nat.zero_mul, Nat.add_zero]
    simp only [laws_FnRoles.l1]
    rw [if_neg (by omega)]
  | succ m ih =>
    intro v k hv h0 hk
    rw [Nat.succ_mul, show k + (m * (top.length + 2) + (top.length + 2)) + 1 = ((k + m * (top.length + 2) + 1) + top.length + 1) + 1 by omega]
    simp only [laws_FnRoles.l1]
    rw [if_pos (by omega)]
    have := frInner l hl top htl v top [] false (k + m * (top.length + 2) + 1) (by simp) (by omega)
    rw [show (([] : List Int).length : Int) = 0 from rfl] at this
    rw [this, Bool.false_or, if_pos (hc v h0 (by omega)), wrap_in (by omega) (by omega)]
    exact ih (v + 1) k (by omega) (by omega) hk
theorem frFin (l : List S78) (hl : l.length ≤ 1048576) (k : Nat) (hk : 1000 < k) : ((impl_ArePairs.f k l).bind fun t408 => (if t408 = true then ((impl_TopRoles.f l).bind fun t409 => (laws_FnRoles.l1 k l t409 0)) else (some true))) = some true := by
  rw [pairs2 l hl k (by omega), Option.bind_some]
  by_cases h : arePairs l = true
  · have hw : l.all (wellMade l) = true := by
      unfold arePairs at h
      rw [Bool.and_eq_true] at h
      exact h.1
    have hlen := topS_len l 6 0 []
    rw [if_pos h, top2 l, Option.bind_some]
    have hm : (topS l 6 0 []).length ≤ 6 := by simpa using hlen
    have := frOuter l hl (topS l 6 0 []) (by omega) (fun v h0 h5 => ?_) 6 0 (k - 6 * ((topS l 6 0 []).length + 2) - 1) (by omega) (by omega) (by omega)
    · rwa [show k - 6 * ((topS l 6 0 []).length + 2) - 1 + 6 * ((topS l 6 0 []).length + 2) + 1 = k by omega] at this
    · obtain ⟨t, ht, hv⟩ := covered l hw (above l v + 1) v h0 h5 (by omega)
      rw [List.any_eq_true]
      exact ⟨t, ht, (has_mem _ _).2 hv⟩
  · rw [if_neg h]
theorem frLoop (l : List S78) (hl : l.length ≤ 1048576) (r : Int) (all u : List Int) (hal : all.length ≤ 100) (hul : u.length ≤ 100) (hall : has all r = true → ∀ c ∈ u, has all c = true) : ∀ (b a : List Int) (k : Nat), u = a ++ b → 2000 + 2 * b.length < k → laws_FnRoles.l0 k l r all u (a.length : Int) = some true := by
  have hj : ∀ (k : Nat) (i : Int), 1001 < k → laws_FnRoles.j1 k l r all u i false = some true := by
    intro k i hk
    obtain ⟨k, rfl⟩ : ∃ m, k = m + 1 := ⟨k - 1, by omega⟩
    simp only [laws_FnRoles.j1]
    rw [if_neg (by simp)]
    exact frFin l hl k (by omega)
  intro b
  induction b with
  | nil =>
    intro a k he hk
    obtain ⟨k, rfl⟩ : ∃ m, k = m + 1 := ⟨k - 1, by omega⟩
    have hla : u.length = a.length := by rw [he]; simp
    simp only [laws_FnRoles.l0]
    rw [if_neg (by omega)]
    exact hj k _ (by omega)
  | cons x t ih =>
    intro a k he hk
    obtain ⟨k, rfl⟩ : ∃ m, k = m + 1 + 1 := ⟨k - 2, by omega⟩
    rw [List.length_cons] at hk
    have hla : u.length = a.length + (t.length + 1) := by rw [he]; simp
    have hx' : rd u (a.length : Int) = x := by
      rw [rd_nat, he, getD_get _ _ _ (by simp), List.getElem_append_right (Nat.le_refl _)]
      simp
    have hw : wrap64 ((a.length : Int) + 1) = (((a ++ [x]).length : Nat) : Int) := by rw [List.length_append]; unfold wrap64; simp; omega
    have he' : u = (a ++ [x]) ++ t := by rw [he]; simp
    have hn := ih (a ++ [x]) k he' (by omega)
    simp only [laws_FnRoles.l0]
    rw [if_pos (by omega), containsL all r (by omega) (k + 1) (by omega), Option.bind_some]
    cases hh : has all r with
    | false => exact hj (k + 1) _ (by omega)
    | true =>
      simp only [laws_FnRoles.j1, hx']
      rw [if_pos (by trivial), if_pos (by omega), if_pos (by omega), containsL all x (by omega) k (by omega), Option.bind_some, hall hh x (by rw [he]; simp), if_pos rfl, hw]
      exact hn
theorem pairs_loop (l : List Int) (hl : l.length ≤ 1048576) (d : Nat) : ∀ (out : List S78) (k : Nat) (i h : Int), d ≤ 1000 → 0 ≤ i → i ≤ (l.length : Int) → out.length + d ≤ 30 → d < k → Drawn l (spec_l14Pairs.l0 k out (d : Int) l i h) fun v => v.length ≤ 30 := by
  induction d with
  | zero =>
    intro out k i h _ h0 h1 ho hk
    obtain ⟨k, rfl⟩ : ∃ m, k = m + 1 := ⟨k - 1, by omega⟩
    simp only [spec_l14Pairs.l0]
    rw [if_neg (by omega)]
    exact ⟨_, _, _, rfl, by omega, h0, h1⟩
  | succ d ih =>
    intro out k i h hd h0 h1 ho hk
    obtain ⟨k, rfl⟩ : ∃ m, k = m + 1 := ⟨k - 1, by omega⟩
    simp only [spec_l14Pairs.l0]
    rw [if_pos (by omega)]
    obtain ⟨a, i, h, e, ⟨ga, ga'⟩, h0, h1⟩ := dBelow l hl i h h0 h1 5 (by omega)
    simp only [e, Option.bind_some]
    clear e
    rw [wrap_in (x := 1 + a) (by omega) (by omega)]
    obtain ⟨b, i, h, e, _, h0, h1⟩ := dBelow l hl i h h0 h1 (1 + a) (by omega)
    simp only [e, Option.bind_some]
    clear e
    rw [if_pos (by omega), wrap_in (x := ((d + 1 : Nat) : Int) - 1) (by omega) (by omega), show ((d + 1 : Nat) : Int) - 1 = (d : Int) by omega]
    exact ih _ k i h (by omega) h0 h1 (by rw [List.length_append]; simp; omega) (by omega)
theorem dPairs (l : List Int) (hl : l.length ≤ 1048576) (i h : Int) (h0 : 0 ≤ i) (h1 : i ≤ (l.length : Int)) (k : Nat) (hk : 1000 < k) : Drawn l (spec_l14Pairs.f k l i h) fun v => v.length ≤ 30 := by
  unfold spec_l14Pairs.f
  obtain ⟨v, i, h, e, ⟨g0, g1⟩, h0, h1⟩ := dBelow l hl i h h0 h1 4 (by omega)
  simp only [e, Option.bind_some]
  obtain ⟨n, rfl⟩ : ∃ n : Nat, v = (n : Int) := ⟨v.toNat, by omega⟩
  exact pairs_loop l hl n [] k i h (by omega) h0 h1 (by simp; omega) (by omega)
theorem dHasRole (l : List Int) (hl : l.length ≤ 1048576) (k : Nat) (hk : 1048577 < k) : ∃ L S p r now age, spec_DrawHasRole.f k l = some (L, S, p, r, now, age) ∧ L.length ≤ 30 ∧ S.length ≤ 30 := by
  unfold spec_DrawHasRole.f spec_DrawRolesOf.f
  rw [new1 l hl k hk, Option.bind_some]
  obtain ⟨L, i, h, e, hL, h0, h1⟩ := dPairs l hl 0 (seedOf l (min l.length 4000)) (by omega) (by omega) k (by omega)
  simp only [e, Option.bind_some]
  clear e
  obtain ⟨S, i, h, e, hS, h0, h1⟩ := dStore l hl i h h0 h1 k (by omega)
  simp only [e, Option.bind_some]
  clear e
  obtain ⟨p, i, h, e, _, h0, h1⟩ := dName l hl i h h0 h1 1
  simp only [e, Option.bind_some]
  clear e
  obtain ⟨now, i, h, e, _, h0, h1⟩ := dBelow l hl i h h0 h1 25 (by omega)
  simp only [e, Option.bind_some]
  clear e
  obtain ⟨age, i, h, e, _, h0, h1⟩ := dInt l hl i h h0 h1 [5, 20, 0] (by simp)
  simp only [e, Option.bind_some]
  exact ⟨_, _, _, _, _, _, rfl, hL, hS⟩
theorem FnRoles : laws_FnRoles.Pure := by
  intro l hw
  suffices h : ∀ k, 30000000 < k → laws_FnRoles.f k l = some true from ⟨30000001, h _ (by omega)⟩
  intro k hk
  unfold laws_FnRoles.f laws_big.f
  rw [Option.bind_some]
  by_cases h : (l.length : Int) > 1048576
  · rw [if_pos (decide_eq_true h)]
  · rw [if_neg (by simpa using h)]
    obtain ⟨L, S, p, r, now, age, e, hL, hS⟩ := dHasRole l (by omega) k (by omega)
    have hrl := rolesOf_len L S p now age
    have hul := under_len L r
    simp only [e, Option.bind_some, rolesOf2 L S p now age (by omega) (by omega) k (by omega), under2 L (by omega) r k (by omega), under1 L (by omega) r k (by omega), hasRole2 L S p r now age (by omega) (by omega) k (by omega), containsL (rolesOf L S p now age) r (by omega) k (by omega), if_true, bne_self_eq_false, Bool.false_eq_true, if_false]
    exact frLoop L (by omega) r (rolesOf L S p now age) (under L r) (by omega) (by omega) (fun hh c hc => role_under L S p now age r c hh hc) (under L r) [] k (by simp) (by omega)
end Go.Proofs.Ytgmgoabohppkeaa.Pure
