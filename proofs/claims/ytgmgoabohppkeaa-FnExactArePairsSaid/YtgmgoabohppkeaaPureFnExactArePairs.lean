/- FnExactArePairs: the program's ArePairs answers what the reference's answers, for all lists; it leaves what it is given. Conditions: none. -/
import Derived.Test.YtgmgoabohppkeaaLib
import Derived.Test.YtgmgoabohppkeaaXFnExactArePairsx4
namespace Go.Proofs.Ytgmgoabohppkeaa.Pure
open Go.RowKit Go.Proofs.Ytgmgoabohppkeaa.XFnExactArePairs Go.Proofs.YtgmgoabohppkeaaW.PrintWords
set_option linter.unusedVariables false
set_option linter.unusedSimpArgs false
open Go.Proofs.YtgmgoabohppkeaaLib
theorem rdT80 (l : List S80) (i : Nat) : rd_T80 l (i : Int) = l.getD i z80 := by
  unfold rd_T80
  rw [Int.toNat_natCast]
theorem rdT78 (l : List S78) (i : Nat) : rd_T78 l (i : Int) = l.getD i z78 := by
  unfold rd_T78
  rw [Int.toNat_natCast]
theorem szIncludes (l : List S80) (a : Int) (h0 : 0 ≤ a) (h1 : a ≤ 1048576) (hl : l.length ≤ maxLen) : laws_szIncludesS.f l a = some (if (l.length : Int) ≤ a then a - (l.length : Int) else -1) := by
  unfold maxLen at hl
  unfold laws_szIncludesS.f
  rw [wrap_in (by omega) (by omega)]
  by_cases h : (l.length : Int) ≤ a
  · rw [if_pos h, if_neg (by omega)]
  · rw [if_neg h, if_pos (by omega)]
def cvIncludes (x : S80) : S78 := ⟨x.f0, x.f1⟩
theorem toIncludes (l : List S80) (hl : l.length ≤ 1048576) (k : Nat) (hk : l.length < k) : laws_toIncludesS.f k l = some (l.map cvIncludes) := by
  unfold laws_toIncludesS.f
  rw [if_pos (by omega), if_pos (by omega), Int.toNat_natCast]
  refine (run (fun k s i => laws_toIncludesS.l0 k l s i) (put (fun i => (⟨(l.getD i z80).f0, (l.getD i z80).f1⟩ : S78)) (List.replicate l.length z78)) l.length 0 (l.map cvIncludes) ?_ ?_ k (by omega))
  · intro k i _ hi
    have hlen : (put (fun i => (⟨(l.getD i z80).f0, (l.getD i z80).f1⟩ : S78)) (List.replicate l.length z78) i).length = l.length := by rw [put_length _ _ _ (by simp; omega), List.length_replicate]
    simp only [laws_toIncludesS.l0, laws_toIncludes.f, Option.bind_some, rdT80]
    rw [if_pos (by omega), if_pos (by omega), if_pos (by omega), wrap_succ hi (by omega), Int.toNat_natCast, put_set (fun i => (⟨(l.getD i z80).f0, (l.getD i z80).f1⟩ : S78)) _ i (by simp; omega)]
  · intro k _
    simp only [laws_toIncludesS.l0]
    rw [if_neg (by omega), put_all _ _ (by simp), map_range_getD l z80 (fun x => (⟨x.f0, x.f1⟩ : S78))]
    rfl
theorem eqIncludes_self (l : List S78) (hl : l.length ≤ 1099511627776) (k : Nat) (hk : l.length < k) : laws_eqIncludesS.f k l l = some true := by
  unfold laws_eqIncludesS.f
  rw [if_pos rfl]
  refine run (fun k (_ : Unit) i => laws_eqIncludesS.l0 k l l i) (fun _ => ()) l.length 0 true ?_ ?_ k (by omega)
  · intro k i _ hi
    simp only [laws_eqIncludesS.l0, laws_eqIncludes.f, Option.bind_some, if_true]
    rw [if_pos (by omega), if_pos (by omega), if_pos (by omega), wrap_succ hi hl]
  · intro k _
    simp only [laws_eqIncludesS.l0]
    rw [if_neg (by omega)]
theorem in1 (x y z : Int) : spec_l1In.f x y z = some (decide (y ≤ x ∧ x ≤ z)) := by
  unfold spec_l1In.f
  by_cases h : x ≥ y
  · rw [if_pos h]; simp [show y ≤ x from h]
  · rw [if_neg h]; simp; omega
def has (l : List Int) (n : Int) : Bool := (List.range l.length).any fun i => l.getD i 0 == n
theorem has1 (l : List Int) (n : Int) (hl : l.length ≤ 1099511627776) (k : Nat) (hk : l.length < k) : spec_l13Has.f k l n = some (has l n) := by
  unfold spec_l13Has.f has
  rw [findLoop (fun k i => spec_l13Has.l0 k l n i) l.length 0 (fun i => l.getD i 0 == n) (fun _ => true) false ?_ ?_ ?_ k (by omega)]
  · congr 1
    cases hf : (List.range l.length).find? fun i => l.getD i 0 == n with
    | none =>
      rw [List.find?_eq_none] at hf
      rw [eq_comm, show Option.elim none false (fun _ : Nat => true) = false from rfl, List.any_eq_false]
      exact hf
    | some i =>
      rw [List.find?_range_eq_some] at hf
      rw [eq_comm, show Option.elim (some i) false (fun _ : Nat => true) = true from rfl, List.any_eq_true]
      exact ⟨i, hf.2.1, hf.1⟩
  · intro k i _ hi hp
    have hp' : ¬ l.getD i 0 = n := by simpa using hp
    simp only [spec_l13Has.l0, rd_nat]
    rw [if_pos (by omega), if_pos (by omega), if_neg hp', wrap_succ hi hl]
  · intro k i _ hi hp
    have hp' : l.getD i 0 = n := by simpa using hp
    simp only [spec_l13Has.l0, rd_nat]
    rw [if_pos (by omega), if_pos (by omega), if_pos hp']
  · intro k _
    simp only [spec_l13Has.l0]
    rw [if_neg (by omega)]
/-- There is a pair from a to the role b. -/
def edge (l : List S78) (a b : Int) : Prop := ∃ x ∈ l, x.f0 = a ∧ x.f1 = b ∧ 0 ≤ b ∧ b ≤ 5
def reach (l : List S78) : Int → Int → Prop := Relation.TransGen (edge l)
def falses : List Bool → Nat
  | [] => 0
  | true :: t => falses t
  | false :: t => falses t + 1
theorem falses_len (bs : List Bool) : falses bs ≤ bs.length := by
  induction bs with
  | nil => exact Nat.le_refl _
  | cons b t ih => cases b <;> simp only [falses, List.length_cons] <;> omega
theorem falses_zero (bs : List Bool) : falses bs = 0 → ∀ i, i < bs.length → bs.getD i false = true := by
  induction bs with
  | nil => intro _ i hi; simp at hi
  | cons b t ih =>
    intro h i hi
    cases b with
    | false => simp [falses] at h
    | true =>
      cases i with
      | zero => rfl
      | succ i => exact ih (by simpa [falses] using h) i (by simpa using hi)
theorem falses_set (bs : List Bool) : ∀ i, i < bs.length → bs.getD i false = false → falses (bs.set i true) + 1 = falses bs := by
  induction bs with
  | nil => intro i hi; simp at hi
  | cons b t ih =>
    intro i hi h
    cases i with
    | zero =>
      have hb : b = false := by simpa using h
      subst hb
      rfl
    | succ i =>
      have := ih i (by simpa using hi) (by simpa using h)
      cases b
      · show falses (t.set i true) + 1 + 1 = falses t + 1
        omega
      · show falses (t.set i true) + 1 = falses t
        omega
theorem getD_set_iff (bs : List Bool) (i j : Nat) (hi : i < bs.length) : (bs.set i true).getD j false = true ↔ bs.getD j false = true ∨ j = i := by
  simp only [List.getD_eq_getElem?_getD, List.getElem?_set]
  by_cases h : i = j
  · subst h
    simp [hi]
  · simp [h, Ne.symm h]
theorem set_same (bs : List Bool) (i : Nat) (h : bs.getD i false = true) : bs.set i true = bs := by
  refine List.ext_getElem? fun j => ?_
  rw [List.getElem?_set]
  by_cases q : i = j
  · subst q
    rw [List.getD_eq_getElem?_getD] at h
    by_cases hl : i < bs.length
    · rw [List.getElem?_eq_getElem hl] at h
      simp at h
      simp [hl, h]
    · simp [hl]
  · simp [q]
theorem below_fold (a : Int) (b : List S78) : ∀ s : List Bool × List Int, s.1.length = 6 →
    (b.foldl (impl_below.st a) s).1.length = 6 ∧ falses (b.foldl (impl_below.st a) s).1 + (b.foldl (impl_below.st a) s).2.length = falses s.1 + s.2.length ∧
    (∀ i : Nat, s.1.getD i false = true → (b.foldl (impl_below.st a) s).1.getD i false = true) ∧
    (∀ i : Nat, (b.foldl (impl_below.st a) s).1.getD i false = true → s.1.getD i false = true ∨ ((i : Int) ∈ (b.foldl (impl_below.st a) s).2 ∧ edge b a i)) ∧
    (∀ t ∈ s.2, t ∈ (b.foldl (impl_below.st a) s).2) ∧
    (∀ t ∈ (b.foldl (impl_below.st a) s).2, t ∈ s.2 ∨ edge b a t) ∧
    (∀ c, edge b a c → (b.foldl (impl_below.st a) s).1.getD c.toNat false = true) := by
  induction b with
  | nil =>
    intro s hs
    refine ⟨hs, rfl, fun _ h => h, fun _ h => .inl h, fun _ h => h, fun _ h => .inl h, fun c h => ?_⟩
    obtain ⟨x, hx, _⟩ := h
    cases hx
  | cons x b ih =>
    intro s hs
    have mono : ∀ c, edge b a c → edge (x :: b) a c := fun c h => by
      obtain ⟨y, hy, q⟩ := h
      exact ⟨y, List.mem_cons_of_mem _ hy, q⟩
    rw [List.foldl_cons]
    by_cases h : x.f0 = a ∧ (0 ≤ x.f1 ∧ x.f1 ≤ 5) ∧ s.1.getD x.f1.toNat false = false
    · have e : impl_below.st a s x = (s.1.set x.f1.toNat true, s.2 ++ [x.f1]) := by unfold impl_below.st; rw [if_pos h]
      rw [e]
      have hi : x.f1.toNat < s.1.length := by omega
      obtain ⟨g1, g2, g3, g4, g5, g6, g7⟩ := ih (s.1.set x.f1.toNat true, s.2 ++ [x.f1]) (by simpa using hs)
      generalize b.foldl (impl_below.st a) (s.1.set x.f1.toNat true, s.2 ++ [x.f1]) = r at g1 g2 g3 g4 g5 g6 g7 ⊢
      have hc := falses_set s.1 x.f1.toNat hi h.2.2
      have hx : edge (x :: b) a x.f1 := ⟨x, List.mem_cons_self, h.1, rfl, h.2.1.1, h.2.1.2⟩
      refine ⟨g1, ?_, fun i q => g3 i ((getD_set_iff _ _ _ hi).2 (.inl q)), fun i q => ?_, fun t q => g5 t (List.mem_append_left _ q), fun t q => ?_, fun c q => ?_⟩
      · rw [g2]
        simp only [List.length_append, List.length_singleton]
        omega
      · rcases g4 i q with q | q
        · rcases (getD_set_iff _ _ _ hi).1 q with q | q
          · exact .inl q
          · have hc1 : (i : Int) = x.f1 := by omega
            exact .inr ⟨by rw [hc1]; exact g5 _ (List.mem_append_right _ (List.mem_singleton.2 rfl)), by rw [hc1]; exact hx⟩
        · exact .inr ⟨q.1, mono _ q.2⟩
      · rcases g6 t q with q | q
        · rcases List.mem_append.1 q with q | q
          · exact .inl q
          · rw [List.mem_singleton.1 q]
            exact .inr hx
        · exact .inr (mono _ q)
      · obtain ⟨y, hy, e1, e2, e3, e4⟩ := q
        rcases List.mem_cons.1 hy with rfl | hy
        · subst e2
          exact g3 _ ((getD_set_iff _ _ _ hi).2 (.inr rfl))
        · exact g7 c ⟨y, hy, e1, e2, e3, e4⟩
    · have e : impl_below.st a s x = s := by unfold impl_below.st; rw [if_neg h]
      rw [e]
      obtain ⟨g1, g2, g3, g4, g5, g6, g7⟩ := ih s hs
      generalize b.foldl (impl_below.st a) s = r at g1 g2 g3 g4 g5 g6 g7 ⊢
      refine ⟨g1, g2, g3, fun i q => ?_, g5, fun t q => ?_, fun c q => ?_⟩
      · rcases g4 i q with q | q
        · exact .inl q
        · exact .inr ⟨q.1, mono _ q.2⟩
      · rcases g6 t q with q | q
        · exact .inl q
        · exact .inr (mono _ q)
      · obtain ⟨y, hy, e1, e2, e3, e4⟩ := q
        rcases List.mem_cons.1 hy with rfl | hy
        · subst e2
          have : s.1.getD y.f1.toNat false = true := by
            cases hb : s.1.getD y.f1.toNat false with
            | true => rfl
            | false => exact absurd ⟨e1, ⟨e3, e4⟩, hb⟩ h
          exact g3 _ this
        · exact g7 c ⟨y, hy, e1, e2, e3, e4⟩
theorem below_go (l : List S78) (hl : l.length ≤ 1048576) (role : Int) : ∀ (k : Nat) (bs : List Bool) (todo : List Int), bs.length = 6 → falses bs + todo.length < k → falses bs + todo.length ≤ 7 →
    (∀ i : Nat, bs.getD i false = true → reach l role i) → (∀ t ∈ todo, t = role ∨ reach l role t) →
    (∀ a : Int, (a = role ∨ (0 ≤ a ∧ bs.getD a.toNat false = true)) → a ∉ todo → ∀ c, edge l a c → bs.getD c.toNat false = true) →
    ∃ bs', impl_below.go l k bs todo = some bs' ∧ bs'.length = 6 ∧ ∀ i : Nat, bs'.getD i false = true ↔ reach l role i := by
  intro k
  induction k with
  | zero => intro bs todo _ h; omega
  | succ k ih =>
    intro bs todo hb hk h7 h1 h2 h3
    cases todo with
    | nil =>
      refine ⟨bs, rfl, hb, fun i => ⟨h1 i, fun q => ?_⟩⟩
      have key : ∀ c : Int, reach l role c → bs.getD c.toNat false = true ∧ 0 ≤ c := by
        intro c q
        induction q with
        | single e => exact ⟨h3 role (.inl rfl) (List.not_mem_nil) _ e, by obtain ⟨_, _, _, _, g, _⟩ := e; exact g⟩
        | tail _ e ihq => exact ⟨h3 _ (.inr ⟨ihq.2, ihq.1⟩) (List.not_mem_nil) _ e, by obtain ⟨_, _, _, _, g, _⟩ := e; exact g⟩
      exact (key i q).1
    | cons a t =>
      simp only [List.length_cons] at hk h7
      simp only [impl_below.go]
      rw [if_pos (by omega)]
      obtain ⟨g1, g2, g3, g4, g5, g6, g7⟩ := below_fold a l (bs, t) hb
      generalize l.foldl (impl_below.st a) (bs, t) = r at g1 g2 g3 g4 g5 g6 g7 ⊢
      have ha : a = role ∨ reach l role a := h2 a (List.mem_cons_self)
      have hstep : ∀ c, edge l a c → reach l role c := by
        intro c e
        rcases ha with rfl | q
        · exact Relation.TransGen.single e
        · exact Relation.TransGen.tail q e
      refine ih r.1 r.2 g1 (by simp only at g2; omega) (by simp only at g2; omega) (fun i q => ?_) (fun c q => ?_) (fun c q hn d e => ?_)
      · rcases g4 i q with q | q
        · exact h1 i q
        · exact hstep _ q.2
      · rcases g6 c q with q | q
        · exact h2 c (List.mem_cons_of_mem _ q)
        · exact .inr (hstep _ q)
      · by_cases hca : c = a
        · subst hca
          exact g7 d e
        · have hnt : c ∉ a :: t := by
            intro q2
            rcases List.mem_cons.1 q2 with q2 | q2
            · exact hca q2
            · exact hn (g5 c q2)
          refine g3 _ (h3 c ?_ hnt d e)
          rcases q with q | ⟨q0, q⟩
          · exact .inl q
          · rcases g4 _ q with q | q
            · exact .inr ⟨q0, q⟩
            · refine absurd ?_ hn
              have := q.1
              rwa [Int.toNat_of_nonneg q0] at this
theorem below2 (l : List S78) (hl : l.length ≤ 1048576) (role : Int) (k : Nat) (hk : 7 < k) : ∃ bs, impl_below.f k l role = some bs ∧ bs.length = 6 ∧ ∀ i : Nat, bs.getD i false = true ↔ reach l role i := by
  unfold impl_below.f
  have hz : ∀ i : Nat, (List.replicate 6 false).getD i false = false := by
    intro i
    rw [List.getD_eq_getElem?_getD, List.getElem?_replicate]
    split <;> rfl
  refine below_go l hl role k (List.replicate 6 false) [role] rfl (by simp only [List.length_singleton]; show 6 + 1 < k; omega) (Nat.le_refl 7) (fun i q => ?_) (fun t q => .inl (List.mem_singleton.1 q)) (fun a q hn => ?_)
  · rw [hz] at q
    cases q
  · rcases q with q | ⟨_, q⟩
    · exact absurd (List.mem_singleton.2 q) hn
    · rw [hz] at q
      cases q
/-- One pass over the pairs. -/
def mk1 (ms : List Bool) (x : S78) : List Bool := if (0 ≤ x.f0 ∧ x.f0 ≤ 5) ∧ (0 ≤ x.f1 ∧ x.f1 ≤ 5) ∧ ms.getD x.f0.toNat false = true then ms.set x.f1.toNat true else ms
def passes (l : List S78) : Nat → List Bool → List Bool
  | 0, ms => ms
  | n + 1, ms => passes l n (l.foldl mk1 ms)
theorem mk1_len (ms : List Bool) (x : S78) : (mk1 ms x).length = ms.length := by
  unfold mk1
  split
  · simp
  · rfl
theorem pass_fold (b : List S78) : ∀ ms : List Bool, ms.length = 6 → (b.foldl mk1 ms).length = 6 ∧ (∀ i : Nat, ms.getD i false = true → (b.foldl mk1 ms).getD i false = true) ∧
    falses (b.foldl mk1 ms) ≤ falses ms ∧ (falses (b.foldl mk1 ms) = falses ms → b.foldl mk1 ms = ms ∧ ∀ x ∈ b, (0 ≤ x.f0 ∧ x.f0 ≤ 5) → (0 ≤ x.f1 ∧ x.f1 ≤ 5) → ms.getD x.f0.toNat false = true → ms.getD x.f1.toNat false = true) := by
  induction b with
  | nil => intro ms h; exact ⟨h, fun _ h => h, Nat.le_refl _, fun _ => ⟨rfl, fun x hx => by cases hx⟩⟩
  | cons x b ih =>
    intro ms hm
    rw [List.foldl_cons]
    obtain ⟨g1, g2, g3, g4⟩ := ih (mk1 ms x) (by rw [mk1_len]; exact hm)
    by_cases h : (0 ≤ x.f0 ∧ x.f0 ≤ 5) ∧ (0 ≤ x.f1 ∧ x.f1 ≤ 5) ∧ ms.getD x.f0.toNat false = true
    · have e : mk1 ms x = ms.set x.f1.toNat true := by unfold mk1; rw [if_pos h]
      have hi : x.f1.toNat < ms.length := by omega
      cases hb : ms.getD x.f1.toNat false with
      | true =>
        rw [set_same ms _ hb] at e
        rw [e] at g1 g2 g3 g4 ⊢
        refine ⟨g1, g2, g3, fun q => ⟨(g4 q).1, fun y hy => ?_⟩⟩
        rcases List.mem_cons.1 hy with rfl | hy
        · exact fun _ _ _ => hb
        · exact (g4 q).2 y hy
      | false =>
        have hf := falses_set ms _ hi hb
        rw [e] at g1 g2 g3 g4 ⊢
        exact ⟨g1, fun i q => g2 i ((getD_set_iff _ _ _ hi).2 (.inl q)), by omega, fun q => by omega⟩
    · have e : mk1 ms x = ms := by unfold mk1; rw [if_neg h]
      rw [e] at g1 g2 g3 g4 ⊢
      refine ⟨g1, g2, g3, fun q => ⟨(g4 q).1, fun y hy => ?_⟩⟩
      rcases List.mem_cons.1 hy with rfl | hy
      · exact fun a1 a2 a3 => absurd ⟨a1, a2, a3⟩ h
      · exact (g4 q).2 y hy
theorem pass_sound (l : List S78) (role : Int) (b : List S78) : ∀ ms : List Bool, ms.length = 6 → (∀ x ∈ b, x ∈ l) → (∀ i : Nat, ms.getD i false = true → (i : Int) = role ∨ reach l role i) → ∀ i : Nat, (b.foldl mk1 ms).getD i false = true → (i : Int) = role ∨ reach l role i := by
  induction b with
  | nil => intro ms _ _ h; exact h
  | cons x b ih =>
    intro ms hm hs h
    rw [List.foldl_cons]
    refine ih (mk1 ms x) (by rw [mk1_len]; exact hm) (fun y hy => hs y (List.mem_cons_of_mem _ hy)) fun i q => ?_
    unfold mk1 at q
    split at q
    · rename_i hx
      rcases (getD_set_iff _ _ _ (by omega)).1 q with q | q
      · exact h i q
      · have h0 := h _ hx.2.2
        rw [Int.toNat_of_nonneg hx.1.1] at h0
        have e : edge l x.f0 i := ⟨x, hs x List.mem_cons_self, rfl, by omega, by omega, by omega⟩
        rcases h0 with h0 | h0
        · rw [h0] at e
          exact .inr (Relation.TransGen.single e)
        · exact .inr (Relation.TransGen.tail h0 e)
    · exact h i q
theorem passes_len (l : List S78) (n : Nat) : ∀ ms : List Bool, ms.length = 6 → (passes l n ms).length = 6 := by
  induction n with
  | zero => intro ms h; exact h
  | succ n ih => intro ms h; exact ih _ (pass_fold l ms h).1
theorem passes_mono (l : List S78) (n : Nat) : ∀ ms : List Bool, ms.length = 6 → ∀ i : Nat, ms.getD i false = true → (passes l n ms).getD i false = true := by
  induction n with
  | zero => intro ms _ i h; exact h
  | succ n ih => intro ms h i hi; exact ih _ (pass_fold l ms h).1 i ((pass_fold l ms h).2.1 i hi)
theorem passes_sound (l : List S78) (role : Int) (n : Nat) : ∀ ms : List Bool, ms.length = 6 → (∀ i : Nat, ms.getD i false = true → (i : Int) = role ∨ reach l role i) → ∀ i : Nat, (passes l n ms).getD i false = true → (i : Int) = role ∨ reach l role i := by
  induction n with
  | zero => intro ms _ h; exact h
  | succ n ih => intro ms h hs; exact ih _ (pass_fold l ms h).1 (pass_sound l role l ms h (fun _ hx => hx) hs)
theorem passes_fix (l : List S78) (ms : List Bool) (h : l.foldl mk1 ms = ms) (n : Nat) : passes l n ms = ms := by
  induction n with
  | zero => rfl
  | succ n ih => rw [passes, h, ih]
theorem passes_closed (l : List S78) (n : Nat) : ∀ ms : List Bool, ms.length = 6 → falses ms ≤ n → ∀ x ∈ l, (0 ≤ x.f0 ∧ x.f0 ≤ 5) → (0 ≤ x.f1 ∧ x.f1 ≤ 5) → (passes l n ms).getD x.f0.toNat false = true → (passes l n ms).getD x.f1.toNat false = true := by
  induction n with
  | zero =>
    intro ms h hf x _ _ h1 _
    exact falses_zero ms (by omega) _ (by omega)
  | succ n ih =>
    intro ms h hf
    obtain ⟨g1, g2, g3, g4⟩ := pass_fold l ms h
    by_cases q : falses (l.foldl mk1 ms) = falses ms
    · obtain ⟨e, hc⟩ := g4 q
      rw [passes, e, passes_fix l ms e]
      exact hc
    · exact ih _ g1 (by omega)
def start (role : Int) : List Bool := (List.replicate 6 false).set role.toNat true
/-- The roles under a role, in their order. -/
def under (l : List S78) (role : Int) : List Int := if 0 ≤ role ∧ role ≤ 5 then ((List.range 6).filter fun i => (passes l 6 (start role)).getD i false).map fun (i : Nat) => (i : Int) else []
theorem marks_iff (l : List S78) (role : Int) (hr : 0 ≤ role ∧ role ≤ 5) (i : Nat) : (passes l 6 (start role)).getD i false = true ↔ (i : Int) = role ∨ reach l role i := by
  have hs : (start role).length = 6 := by simp [start]
  have hlt : role.toNat < (List.replicate 6 false).length := by simp; omega
  have hz : ∀ i : Nat, (List.replicate 6 false).getD i false = false := by
    intro i
    rw [List.getD_eq_getElem?_getD, List.getElem?_replicate]
    split <;> rfl
  have hb : ∀ i : Nat, (start role).getD i false = true ↔ (i : Int) = role := by
    intro i
    unfold start
    rw [getD_set_iff _ _ _ hlt, hz]
    constructor
    · rintro (h | h)
      · cases h
      · omega
    · intro h
      exact .inr (by omega)
  constructor
  · exact passes_sound l role 6 _ hs (fun i h => .inl ((hb i).1 h)) i
  · have hc := passes_closed l 6 (start role) hs (by have := falses_len (start role); omega)
    have h0 : (passes l 6 (start role)).getD role.toNat false = true := passes_mono l 6 _ hs _ ((hb _).2 (by omega))
    have hlen := passes_len l 6 _ hs
    generalize passes l 6 (start role) = ms at hc h0 hlen
    have key : ∀ c : Int, reach l role c → ms.getD c.toNat false = true ∧ 0 ≤ c ∧ c ≤ 5 := by
      intro c q
      induction q with
      | single e =>
        obtain ⟨x, hx, rfl, rfl, g, g'⟩ := e
        exact ⟨hc x hx hr ⟨g, g'⟩ h0, g, g'⟩
      | tail _ e ihq =>
        obtain ⟨x, hx, rfl, rfl, g, g'⟩ := e
        exact ⟨hc x hx ihq.2 ⟨g, g'⟩ ihq.1, g, g'⟩
    rintro (h | h)
    · rw [show i = role.toNat by omega]
      exact h0
    · exact (key _ h).1
theorem under_len (l : List S78) (role : Int) : (under l role).length ≤ 6 := by
  unfold under
  split
  · rw [List.length_map]
    exact Nat.le_trans (List.length_filter_le _ _) (by simp)
  · simp
theorem under_mem (l : List S78) (role : Int) (c : Int) : c ∈ under l role ↔ (0 ≤ role ∧ role ≤ 5) ∧ (0 ≤ c ∧ c ≤ 5) ∧ (c = role ∨ reach l role c) := by
  unfold under
  split
  · rename_i h
    simp only [List.mem_map, List.mem_filter, List.mem_range]
    constructor
    · rintro ⟨i, ⟨h6, hi⟩, rfl⟩
      exact ⟨h, by omega, (marks_iff l role h i).1 hi⟩
    · rintro ⟨_, hc, q⟩
      refine ⟨c.toNat, ⟨by omega, (marks_iff l role h _).2 ?_⟩, by omega⟩
      rwa [Int.toNat_of_nonneg hc.1]
  · rename_i h
    constructor
    · intro q
      cases q
    · intro q
      exact absurd q.1 h
def marked (p : Nat → Bool) (n : Nat) : List Int := ((List.range n).filter p).map fun (i : Nat) => (i : Int)
theorem marked_len (p : Nat → Bool) (n : Nat) : (marked p n).length ≤ n := by
  unfold marked
  rw [List.length_map]
  exact Nat.le_trans (List.length_filter_le _ _) (by simp)
theorem marked_succ (p : Nat → Bool) (n : Nat) : marked p (n + 1) = if p n = true then marked p n ++ [(n : Int)] else marked p n := by
  unfold marked
  rw [List.range_succ, List.filter_append, List.map_append]
  by_cases h : p n = true
  · rw [if_pos h]
    simp [h]
  · rw [if_neg h]
    simp [h]
theorem marked_congr (p q : Nat → Bool) (n : Nat) (h : ∀ i, i < n → p i = q i) : marked p n = marked q n := by
  unfold marked
  rw [List.filter_congr fun i hi => h i (List.mem_range.1 hi)]
theorem ruInner (l : List S78) (hl : l.length ≤ 1048576) (x5 : List Int) (v : Int) : ∀ (b a : List S78) (ms : List Bool) (k : Nat), l = a ++ b → ms.length = 6 → spec_RolesUnder.l1 (k + b.length + 1) l x5 ms v (a.length : Int) = spec_RolesUnder.l0 k l x5 (b.foldl mk1 ms) (wrap64 (v + 1)) := by
  intro b
  induction b with
  | nil =>
    intro a ms k he _
    have hla : l.length = a.length := by rw [he]; simp
    simp only [spec_RolesUnder.l1]
    rw [if_neg (by omega)]
    rfl
  | cons x r ih =>
    intro a ms k he hm
    have hla : l.length = a.length + (r.length + 1) := by rw [he]; simp
    have hx' : rd_T78 l (a.length : Int) = x := by
      rw [rdT78, he, getD_get _ _ _ (by simp), List.getElem_append_right (Nat.le_refl _)]
      simp
    have hw : wrap64 ((a.length : Int) + 1) = (((a ++ [x]).length : Nat) : Int) := by rw [List.length_append]; unfold wrap64; simp; omega
    have he' : l = (a ++ [x]) ++ r := by rw [he]; simp
    have hn := ih (a ++ [x]) (mk1 ms x) k he' (by rw [mk1_len]; exact hm)
    rw [List.foldl_cons, List.length_cons, show k + (r.length + 1) + 1 = (k + r.length + 1) + 1 by omega, ← hn]
    generalize hq : k + r.length + 1 = q
    simp only [spec_RolesUnder.l1, hx', in1, Option.bind_some, hw]
    rw [if_pos (by omega), if_pos (by omega)]
    by_cases h0 : 0 ≤ x.f0 ∧ x.f0 ≤ 5
    · rw [decide_eq_true h0, if_pos rfl]
      by_cases h1 : 0 ≤ x.f1 ∧ x.f1 ≤ 5
      · rw [decide_eq_true h1, if_pos rfl, if_pos h0.1, if_pos (by omega)]
        by_cases h2 : ms.getD x.f0.toNat false = true
        · have e : mk1 ms x = ms.set x.f1.toNat true := by unfold mk1; rw [if_pos ⟨h0, h1, h2⟩]
          rw [if_pos (by exact h2), if_pos h1.1, if_pos (by omega), e]
        · have e : mk1 ms x = ms := by unfold mk1; rw [if_neg (fun h => h2 h.2.2)]
          rw [if_neg (by exact h2), e]
      · have e : mk1 ms x = ms := by unfold mk1; rw [if_neg (fun h => h1 h.2.1)]
        rw [decide_eq_false h1, if_neg (by simp), e]
    · have e : mk1 ms x = ms := by unfold mk1; rw [if_neg (fun h => h0 h.1)]
      rw [decide_eq_false h0, if_neg (by simp), e]
theorem ruOuter (l : List S78) (hl : l.length ≤ 1048576) (x5 : List Int) (m : Nat) : ∀ (v : Int) (ms : List Bool) (k : Nat), v + (m : Int) = 6 → 0 ≤ v → ms.length = 6 → spec_RolesUnder.l0 (k + m * (l.length + 2) + 1) l x5 ms v = spec_RolesUnder.l2 k x5 (passes l m ms) 0 := by
  induction m with
  | zero =>
    intro v ms k hv _ _
    rw [Nat.zero_mul, Nat.add_zero]
    simp only [spec_RolesUnder.l0]
    rw [if_neg (by omega)]
    rfl
  | succ m ih =>
    intro v ms k hv h0 hm
    rw [Nat.succ_mul, show k + (m * (l.length + 2) + (l.length + 2)) + 1 = ((k + m * (l.length + 2) + 1) + l.length + 1) + 1 by omega]
    simp only [spec_RolesUnder.l0]
    rw [if_pos (by omega)]
    have := ruInner l hl x5 v l [] ms (k + m * (l.length + 2) + 1) (by simp) hm
    rw [show (([] : List S78).length : Int) = 0 from rfl] at this
    rw [this, wrap_in (by omega) (by omega), ih (v + 1) _ k (by omega) (by omega) (pass_fold l ms hm).1]
    rfl
theorem ruOut (ms : List Bool) (hm : ms.length = 6) (k : Nat) (hk : 7 < k) : spec_RolesUnder.l2 k [] ms 0 = some (marked (fun i => ms.getD i false) 6) := by
  refine run (fun k s i => spec_RolesUnder.l2 k s ms i) (fun i => marked (fun i => ms.getD i false) i) 6 0 _ ?_ ?_ k (by omega)
  · intro k i _ hi
    have hlen := marked_len (fun i => ms.getD i false) i
    have hr : rdOf false ms (i : Int) = ms.getD i false := by unfold rdOf; rw [Int.toNat_natCast]
    simp only [spec_RolesUnder.l2, hr]
    rw [if_pos (by omega), if_pos (by omega), if_pos (by omega), marked_succ, wrap_in (by omega) (by omega)]
    by_cases h : ms.getD i false = true
    · rw [if_pos h, if_pos h, if_pos (by omega)]
      rfl
    · rw [if_neg h, if_neg h]
      rfl
  · intro k _
    simp only [spec_RolesUnder.l2]
    rw [if_neg (by omega)]
theorem under1 (l : List S78) (hl : l.length ≤ 1048576) (a : Int) (k : Nat) (hk : 7000000 < k) : spec_RolesUnder.f k l a = some (under l a) := by
  unfold spec_RolesUnder.f under
  simp only [in1, Option.bind_some]
  by_cases h : 0 ≤ a ∧ a ≤ 5
  · rw [decide_eq_true h, if_pos rfl, if_pos h, if_pos (by omega), if_pos h.1, if_pos (by simp; omega)]
    have hs : (start a).length = 6 := by simp [start]
    have := ruOuter l hl [] 6 0 (start a) (k - 6 * (l.length + 2) - 1) (by omega) (by omega) hs
    rw [show k - 6 * (l.length + 2) - 1 + 6 * (l.length + 2) + 1 = k by omega] at this
    refine Eq.trans this ?_
    rw [ruOut _ (passes_len l 6 _ hs) _ (by omega)]
    rfl
  · rw [decide_eq_false h, if_neg h, if_neg (by simp)]
theorem reach_head {l : List S78} {a b c : Int} (h : edge l a b) (q : reach l b c) : reach l a c := by
  induction q with
  | single e => exact Relation.TransGen.tail (Relation.TransGen.single h) e
  | tail _ e ih => exact Relation.TransGen.tail ih e
theorem reach_first {l : List S78} {a c : Int} (q : reach l a c) : ∃ b, edge l a b ∧ (b = c ∨ reach l b c) := by
  induction q with
  | single e => exact ⟨_, e, .inl rfl⟩
  | tail _ e ih =>
    obtain ⟨b, h, g⟩ := ih
    refine ⟨b, h, .inr ?_⟩
    rcases g with rfl | g
    · exact Relation.TransGen.single e
    · exact Relation.TransGen.tail g e
theorem has_mem (l : List Int) (n : Int) : has l n = true ↔ n ∈ l := by
  unfold has
  rw [List.any_eq_true]
  constructor
  · rintro ⟨i, hi, e⟩
    have hi' := List.mem_range.1 hi
    have e' : l.getD i 0 = n := by simpa using e
    rw [← e']
    exact getD_mem l i 0 hi'
  · intro h
    obtain ⟨i, hi, e⟩ := List.mem_iff_getElem.1 h
    exact ⟨i, List.mem_range.2 hi, by rw [getD_get l i 0 hi, e]; exact beq_self_eq_true n⟩
/-- A pair is well made: of two roles, and the greater is not under the lesser. -/
def wellMade (l : List S78) (x : S78) : Bool := decide (0 ≤ x.f0 ∧ x.f0 ≤ 5) && (decide (0 ≤ x.f1 ∧ x.f1 ≤ 5) && !has (under l x.f1) x.f0)
def arePairs (l : List S78) : Bool := l.all (wellMade l) && decide ((l.length : Int) ≤ 10)
theorem wellMade_iff (l : List S78) : l.all (wellMade l) = true ↔ ∀ x ∈ l, (0 ≤ x.f0 ∧ x.f0 ≤ 5) ∧ (0 ≤ x.f1 ∧ x.f1 ≤ 5) ∧ ¬ reach l x.f0 x.f0 := by
  rw [List.all_eq_true]
  constructor
  · intro h x hx
    have hw : ∀ y ∈ l, (0 ≤ y.f0 ∧ y.f0 ≤ 5) ∧ (0 ≤ y.f1 ∧ y.f1 ≤ 5) ∧ ¬ y.f0 ∈ under l y.f1 := fun y hy => by
      have := h y hy
      unfold wellMade at this
      simp only [Bool.and_eq_true, decide_eq_true_eq, Bool.not_eq_true'] at this
      refine ⟨this.1, this.2.1, fun q => ?_⟩
      have g := (has_mem _ _).2 q
      rw [this.2.2] at g
      cases g
    refine ⟨(hw x hx).1, (hw x hx).2.1, fun q => ?_⟩
    obtain ⟨b, ⟨y, hy, e0, e1, g0, g1⟩, hb⟩ := reach_first q
    refine (hw y hy).2.2 ((under_mem l y.f1 y.f0).2 ⟨(hw y hy).2.1, (hw y hy).1, ?_⟩)
    rw [e0, e1]
    rcases hb with hb | hb
    · exact .inl hb.symm
    · exact .inr hb
  · intro h x hx
    obtain ⟨h0, h1, h2⟩ := h x hx
    unfold wellMade
    simp only [Bool.and_eq_true, decide_eq_true_eq, Bool.not_eq_true']
    refine ⟨h0, h1, Bool.eq_false_iff.2 fun q => h2 ?_⟩
    have e : edge l x.f0 x.f1 := ⟨x, hx, rfl, rfl, h1.1, h1.2⟩
    rcases ((under_mem l x.f1 x.f0).1 ((has_mem _ _).1 q)).2.2 with g | g
    · rw [← g] at e
      exact Relation.TransGen.single e
    · exact reach_head e g
theorem pairs_g (l : List S78) (hl : l.length ≤ 1048576) (k : Nat) (hk : 7 < k) : ∀ b : List S78, ∃ r, impl_ArePairs.g k l b = some r ∧ (r = true ↔ (∀ x ∈ b, (0 ≤ x.f0 ∧ x.f0 ≤ 5) ∧ (0 ≤ x.f1 ∧ x.f1 ≤ 5) ∧ ¬ reach l x.f0 x.f0) ∧ (l.length : Int) ≤ 10) := by
  intro b
  induction b with
  | nil => exact ⟨_, rfl, by simp⟩
  | cons x b ih =>
    obtain ⟨r, e, hr⟩ := ih
    rw [impl_ArePairs.g]
    by_cases h0 : 0 ≤ x.f0 ∧ x.f0 ≤ 5
    · rw [if_pos h0]
      by_cases h1 : 0 ≤ x.f1 ∧ x.f1 ≤ 5
      · rw [if_pos h1]
        obtain ⟨bs, hb, hl6, hi⟩ := below2 l hl x.f0 k hk
        rw [hb, Option.bind_some, if_pos hl6]
        have h2 := hi x.f0.toNat
        rw [Int.toNat_of_nonneg h0.1] at h2
        by_cases hx : bs.getD x.f0.toNat false = true
        · rw [if_pos hx]
          exact ⟨false, rfl, by simp [h2.1 hx]⟩
        · rw [if_neg hx]
          refine ⟨r, e, ?_⟩
          rw [hr]
          constructor
          · rintro ⟨g, g'⟩
            refine ⟨fun y hy => ?_, g'⟩
            rcases List.mem_cons.1 hy with rfl | hy
            · exact ⟨h0, h1, fun q => hx (h2.2 q)⟩
            · exact g y hy
          · rintro ⟨g, g'⟩
            exact ⟨fun y hy => g y (List.mem_cons_of_mem _ hy), g'⟩
      · rw [if_neg h1]
        exact ⟨false, rfl, by simp [h1]⟩
    · rw [if_neg h0]
      exact ⟨false, rfl, by simp [h0]⟩
theorem pairs2 (l : List S78) (hl : l.length ≤ 1048576) (k : Nat) (hk : 7 < k) : impl_ArePairs.f k l = some (arePairs l) := by
  obtain ⟨r, e, hr⟩ := pairs_g l hl k hk l
  unfold impl_ArePairs.f
  rw [e]
  refine congrArg some ?_
  rw [Bool.eq_iff_iff, hr]
  unfold arePairs
  rw [Bool.and_eq_true, wellMade_iff, decide_eq_true_eq]
theorem pairs1 (l : List S78) (hl : l.length ≤ 1048576) (k : Nat) (hk : 8500000 < k) : spec_ArePairs.f k l = some (arePairs l) := by
  unfold spec_ArePairs.f
  have hp : arePairs l = if (List.range l.length).all (fun i => wellMade l (l.getD i z78)) = true then decide ((l.length : Int) ≤ 10) else false := by
    unfold arePairs
    rw [all_range_getD l z78 (wellMade l)]
    by_cases h : l.all (wellMade l) = true
    · rw [if_pos h, h, Bool.true_and]
    · rw [if_neg h, Bool.eq_false_iff.2 h, Bool.false_and]
  rw [hp]
  refine allLoop (fun k i => spec_ArePairs.l0 k l i) l.length 7000100 (fun i => wellMade l (l.getD i z78)) false _ ?_ ?_ ?_ k (by omega)
  · intro k i hB hi hp
    have hlen := under_len l (l.getD i z78).f1
    unfold wellMade at hp
    simp only [Bool.and_eq_true, decide_eq_true_eq, Bool.not_eq_true'] at hp
    simp only [spec_ArePairs.l0, rdT78, in1, Option.bind_some, under1 l hl _ k (by omega), has1 _ _ (show (under l (l.getD i z78).f1).length ≤ 1099511627776 by omega) k (by omega)]
    rw [if_pos (by omega), if_pos (by omega), decide_eq_true hp.1, if_pos rfl, decide_eq_true hp.2.1, if_pos rfl, hp.2.2, if_neg (by simp), wrap_succ hi (by omega)]
  · intro k i hB hi hp
    have hlen := under_len l (l.getD i z78).f1
    unfold wellMade at hp
    simp only [spec_ArePairs.l0, rdT78, in1, Option.bind_some, under1 l hl _ k (by omega), has1 _ _ (show (under l (l.getD i z78).f1).length ≤ 1099511627776 by omega) k (by omega)]
    rw [if_pos (by omega), if_pos (by omega)]
    by_cases h0 : 0 ≤ (l.getD i z78).f0 ∧ (l.getD i z78).f0 ≤ 5
    · rw [decide_eq_true h0, if_pos rfl]
      rw [decide_eq_true h0, Bool.true_and] at hp
      by_cases h1 : 0 ≤ (l.getD i z78).f1 ∧ (l.getD i z78).f1 ≤ 5
      · rw [decide_eq_true h1, if_pos rfl]
        rw [decide_eq_true h1, Bool.true_and] at hp
        have hh : has (under l (l.getD i z78).f1) (l.getD i z78).f0 = true := by simpa using hp
        rw [hh, if_pos rfl]
      · rw [decide_eq_false h1, if_neg (by simp)]
    · rw [decide_eq_false h0, if_neg (by simp)]
  · intro k _
    simp only [spec_ArePairs.l0]
    rw [if_neg (by omega)]
theorem FnExactArePairs : laws_FnExactArePairs.Pure := by
  intro l hw
  suffices h : ∀ k, 9000000 < k → laws_FnExactArePairs.f k l = some true from ⟨9000001, h _ (by omega)⟩
  intro k hk
  unfold laws_FnExactArePairs.f
  rw [szIncludes l 1048576 (by omega) (by omega) hw.1]
  simp only [Option.bind_some]
  by_cases h : (l.length : Int) ≤ 1048576
  · rw [if_pos h, if_neg (by omega), toIncludes l (by omega) k (by omega)]
    have hl : (l.map cvIncludes).length = l.length := List.length_map ..
    simp only [Option.bind_some, pairs1 (l.map cvIncludes) (by omega) k (by omega), pairs2 (l.map cvIncludes) (by omega) k (by omega), eqIncludes_self (l.map cvIncludes) (by omega) k (by omega)]
    simp
  · rw [if_neg h, if_pos (by omega)]
end Go.Proofs.Ytgmgoabohppkeaa.Pure
