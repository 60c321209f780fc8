/- FnConditions: what is said of conditions holds for all bytes. Conditions: none. -/
import Derived.Test.YthjhenhmjmpkaaaUFnConditionsLib
import Derived.Test.YthjhenhmjmpkaaaUFnConditionsx8
namespace Go.Proofs.Ythjhenhmjmpkaaa.Pure
open Go.RowKit Go.Proofs.Ythjhenhmjmpkaaa.XFnConditions Go.Proofs.YthjhenhmjmpkaaaW.PrintWords
set_option linter.unusedVariables false
set_option linter.unusedSimpArgs false
open Go.Proofs.YthjhenhmjmpkaaaLib
/-! ### Trees: how many nodes -/
def treeSep : Unit := ()
mutual
def nodesB : S29 → Nat
  | ⟨_, _, _, l⟩ => 1 + nodesBS l
def nodesBS : List S29 → Nat
  | [] => 0
  | x :: l => nodesB x + nodesBS l
end
theorem nodesB_eq (x : S29) : nodesB x = 1 + nodesBS x.f3 := by cases x; rw [nodesB]
theorem nodesBS_sum (l : List S29) : nodesBS l = (l.map nodesB).sum := by
  induction l with
  | nil => rw [nodesBS]; rfl
  | cons x l ih => rw [nodesBS, ih]; rfl
theorem nodesBS_below (l : List S29) : nodesBS l = l.length + (l.map fun x => nodesBS x.f3).sum := by
  induction l with
  | nil => rw [nodesBS]; rfl
  | cons x l ih =>
    rw [nodesBS, ih, nodesB_eq, List.map_cons, List.sum_cons, List.length_cons]
    omega
theorem nodesB_lt (l : List S29) (x : S29) (h : x ∈ l) : nodesBS x.f3 + l.length ≤ nodesBS l := by
  have := le_sum (fun x : S29 => nodesBS x.f3) l x h
  rw [nodesBS_below l]
  omega
theorem rdCB (l : List S29) (i : Nat) : rd_T29 l (i : Int) = l.getD i z29 := by
  unfold rd_T29
  rw [Int.toNat_natCast]
/-! ### Copies -/
theorem eta2 (x : S29) : (⟨x.f0, x.f1, x.f2, x.f3⟩ : S29) = x := by cases x; rfl
theorem take_at (l : List S29) (i : Nat) (h : i < l.length) : l.take i ++ [l.getD i z29] = l.take (i + 1) := by
  rw [List.take_succ_eq_append_getElem h, getD_get l i _ h]
theorem copy1 (N : Nat) : ∀ (a b c : Int) (l : List S29) (k : Nat), nodesBS l ≤ N → N ≤ 1048577 → 4 * N + 6 < k → spec_l15Copy.f k a b c l = some (a, b, c, l) := by
  induction N using Nat.strongRecOn with
  | _ N ih =>
    intro a b c l k hN hN2 hk
    obtain ⟨k, rfl⟩ : ∃ m, k = m + 1 := ⟨k - 1, by omega⟩
    have hb := nodesBS_below l
    rw [spec_l15Copy.f]
    have h0 : ([] : List S29) = l.take 0 := by simp
    rw [h0]
    rcases Nat.eq_zero_or_pos l.length with hz | hz
    · obtain rfl : l = [] := List.eq_nil_of_length_eq_zero hz
      obtain ⟨k, rfl⟩ : ∃ m, k = m + 1 := ⟨k - 1, by omega⟩
      simp [spec_l15Copy.l0]
    refine run (fun k s i => spec_l15Copy.l0 k i a b c l a b c s) (fun i => l.take i) l.length (4 * (N - l.length) + 7) (a, b, c, l) ?_ ?_ k (by omega)
    · intro k i hk hi
      have hlt := nodesB_lt l _ (getD_mem l i z29 hi)
      simp only [spec_l15Copy.l0, rdCB]
      rw [if_pos (by omega), if_pos (by omega), ih (N - l.length) (by omega) _ _ _ _ k (by omega) (by omega) (by omega), Option.bind_some, if_pos (by rw [List.length_take]; omega), wrap_succ hi (by omega), eta2, take_at l i hi]
    · intro k _
      simp only [spec_l15Copy.l0]
      rw [if_neg (by omega), List.take_length]
theorem copy2 (N : Nat) : ∀ (a b c : Int) (l : List S29) (k : Nat), nodesBS l ≤ N → N ≤ 1048577 → 4 * N + 6 < k → impl_copyCond.f k a b c l = some (a, b, c, l) := by
  induction N using Nat.strongRecOn with
  | _ N ih =>
    intro a b c l k hN hN2 hk
    obtain ⟨k, rfl⟩ : ∃ m, k = m + 1 := ⟨k - 1, by omega⟩
    have hb := nodesBS_below l
    rw [impl_copyCond.f]
    have h0 : ([] : List S29) = l.take 0 := by simp
    rw [h0]
    rcases Nat.eq_zero_or_pos l.length with hz | hz
    · obtain rfl : l = [] := List.eq_nil_of_length_eq_zero hz
      obtain ⟨k, rfl⟩ : ∃ m, k = m + 1 := ⟨k - 1, by omega⟩
      simp [impl_copyCond.l0]
    refine run (fun k s i => impl_copyCond.l0 k l (l.length : Int) i a b c s) (fun i => l.take i) l.length (4 * (N - l.length) + 7) (a, b, c, l) ?_ ?_ k (by omega)
    · intro k i hk hi
      have hlt := nodesB_lt l _ (getD_mem l i z29 hi)
      simp only [impl_copyCond.l0, rdCB]
      rw [if_pos (by omega), if_pos (by omega), if_pos (by omega), ih (N - l.length) (by omega) _ _ _ _ k (by omega) (by omega) (by omega), Option.bind_some, if_pos (by rw [List.length_take]; omega), wrap_succ hi (by omega), eta2, take_at l i hi]
    · intro k _
      simp only [impl_copyCond.l0]
      rw [if_neg (by omega), List.take_length]
open Classical in
noncomputable def sameC (x y : S29) : Bool := decide (x = y)
open Classical in
noncomputable def sameCS (l m : List S29) : Bool := decide (l = m)
open Classical in
theorem sameC_iff (x y : S29) : sameC x y = true ↔ x = y := by unfold sameC; exact decide_eq_true_iff
open Classical in
theorem sameCS_iff (l m : List S29) : sameCS l m = true ↔ l = m := by unfold sameCS; exact decide_eq_true_iff
theorem etaB (x : S29) : (⟨x.f0, x.f1, x.f2, x.f3⟩ : S29) = x := by cases x; rfl
theorem sameCS_all (l m : List S29) (h : l.length = m.length) : (if (List.range l.length).all (fun i => sameC (l.getD i z29) (m.getD i z29)) = true then true else false) = sameCS l m := by
  by_cases g : l = m
  · subst g
    rw [(sameCS_iff l l).2 rfl, if_pos]
    rw [List.all_eq_true]
    exact fun i _ => (sameC_iff _ _).2 rfl
  · rw [Bool.eq_false_iff.2 (fun e => g ((sameCS_iff l m).1 e)), if_neg]
    intro e
    rw [List.all_eq_true] at e
    refine g (List.ext_getElem h fun i h1 h2 => ?_)
    have := (sameC_iff _ _).1 (e i (List.mem_range.2 h1))
    rwa [getD_get l i _ h1, getD_get m i _ h2] at this
theorem sameC_of (a b c : Int) (l m : List S29) : sameC ⟨a, b, c, l⟩ ⟨a, b, c, m⟩ = sameCS l m := by
  by_cases g : l = m
  · subst g; rw [(sameCS_iff l l).2 rfl, (sameC_iff _ _).2 rfl]
  · rw [Bool.eq_false_iff.2 (fun e => g ((sameCS_iff l m).1 e)), Bool.eq_false_iff]
    intro e
    have := (sameC_iff _ _).1 e
    cases this
    exact g rfl
theorem sameC_no (x y : S29) (h : x ≠ y) : sameC x y = false := Bool.eq_false_iff.2 (fun e => h ((sameC_iff x y).1 e))
theorem equal2C (N : Nat) : ∀ (a b c : Int) (l : List S29) (a' b' c' : Int) (m : List S29) (k : Nat), nodesBS l ≤ N → N ≤ 1048576 → 4 * N + 8 < k → impl_EqualConds.f k a b c l a' b' c' m = some (sameC ⟨a, b, c, l⟩ ⟨a', b', c', m⟩) := by
  induction N using Nat.strongRecOn with
  | _ N ih =>
    intro a b c l a' b' c' m k hN hN2 hk
    obtain ⟨k, rfl⟩ : ∃ m, k = m + 1 + 1 := ⟨k - 2, by omega⟩
    have hb := nodesBS_below l
    rw [impl_EqualConds.f]
    by_cases ha : a = a'
    · by_cases hb' : b = b'
      · by_cases hc : c = c'
        · subst ha hb' hc
          rw [if_pos rfl, if_pos rfl, if_pos rfl, sameC_of, impl_Cond_30.f]
          by_cases hl : l.length = m.length
          · rw [if_pos (by omega)]
            rcases Nat.eq_zero_or_pos l.length with hz | hz
            · obtain rfl : l = [] := List.eq_nil_of_length_eq_zero hz
              obtain rfl : m = [] := List.eq_nil_of_length_eq_zero (by simpa using hl.symm)
              obtain ⟨k, rfl⟩ : ∃ m, k = m + 1 := ⟨k - 1, by omega⟩
              rw [impl_Cond_30.l0, if_neg (by simp), (sameCS_iff _ _).2 rfl]
              rfl
            rw [allLoop (fun k i => impl_Cond_30.l0 k m l (l.length : Int) i) l.length (4 * (N - l.length) + 9) (fun i => sameC (l.getD i z29) (m.getD i z29)) false true ?_ ?_ ?_ k (by omega), sameCS_all l m hl]
            · rfl
            · intro k i hk hi hp
              have hlt := nodesB_lt l _ (getD_mem l i z29 hi)
              rw [impl_Cond_30.l0, if_pos (by omega), if_pos (by omega), if_pos (by omega), if_pos (by omega), rdCB, rdCB, ih (N - l.length) (by omega) _ _ _ _ _ _ _ _ k (by omega) (by omega) (by omega), Option.bind_some, etaB, etaB, if_pos hp, wrap_succ hi (by omega)]
            · intro k i hk hi hp
              have hlt := nodesB_lt l _ (getD_mem l i z29 hi)
              rw [impl_Cond_30.l0, if_pos (by omega), if_pos (by omega), if_pos (by omega), if_pos (by omega), rdCB, rdCB, ih (N - l.length) (by omega) _ _ _ _ _ _ _ _ k (by omega) (by omega) (by omega), Option.bind_some, etaB, etaB, hp, if_neg (by simp)]
            · intro k _
              rw [impl_Cond_30.l0, if_neg (by omega)]
          · have hs : sameCS l m = false := Bool.eq_false_iff.2 (fun e => hl (by rw [(sameCS_iff l m).1 e]))
            rw [if_neg (by omega), hs]
            rfl
        · rw [if_pos ha, if_pos hb', if_neg hc, sameC_no _ _ (fun e => hc (by cases e; rfl))]
      · rw [if_pos ha, if_neg hb', sameC_no _ _ (fun e => hb' (by cases e; rfl))]
    · rw [if_neg ha, sameC_no _ _ (fun e => ha (by cases e; rfl))]
def leafSep : Unit := ()
mutual
/-- The leaves of a node that a list lacks, behind it. -/
noncomputable def leavesX : S29 → List S29 → List S29
  | ⟨a, b, c, m⟩, l => if m.length = 0 ∧ 2 ≤ a ∧ a ≤ 6 then (if (l.any fun y => sameC y ⟨a, b, c, m⟩) = true then l else l ++ [⟨a, b, c, m⟩]) else leavesXS m l
noncomputable def leavesXS : List S29 → List S29 → List S29
  | [], l => l
  | y :: t, l => leavesXS t (leavesX y l)
end
theorem leavesX_eq (x : S29) (l : List S29) : leavesX x l = if x.f3.length = 0 ∧ 2 ≤ x.f0 ∧ x.f0 ≤ 6 then (if (l.any fun y => sameC y x) = true then l else l ++ [x]) else leavesXS x.f3 l := by
  cases x
  rw [leavesX]
def bare (l : List S29) : Prop := ∀ y ∈ l, y.f3 = []
theorem bare_nodes (l : List S29) (h : bare l) : nodesBS l = l.length := by
  induction l with
  | nil => rw [nodesBS]; rfl
  | cons y t ih =>
    rw [nodesBS, nodesB_eq, h y List.mem_cons_self, ih (fun z hz => h z (List.mem_cons_of_mem _ hz)), nodesBS, List.length_cons]
    omega
/-- What comes out is bare, and no longer than what there is. -/
theorem leaves_bare (N : Nat) : (∀ (x : S29) (l : List S29), nodesB x ≤ N → bare l → bare (leavesX x l) ∧ (leavesX x l).length ≤ l.length + nodesB x) ∧ (∀ (m : List S29) (l : List S29), nodesBS m ≤ N → bare l → bare (leavesXS m l) ∧ (leavesXS m l).length ≤ l.length + nodesBS m) := by
  induction N with
  | zero =>
    refine ⟨fun x l h _ => ?_, fun m l h hb => ?_⟩
    · rw [nodesB_eq] at h
      omega
    · cases m with
      | nil => rw [leavesXS]; exact ⟨hb, by omega⟩
      | cons y t => rw [nodesBS, nodesB_eq] at h; omega
  | succ N ih =>
    have hX : ∀ (x : S29) (l : List S29), nodesB x ≤ N + 1 → bare l → bare (leavesX x l) ∧ (leavesX x l).length ≤ l.length + nodesB x := by
      intro x l h hb
      rw [nodesB_eq] at h ⊢
      rw [leavesX_eq]
      by_cases c : x.f3.length = 0 ∧ 2 ≤ x.f0 ∧ x.f0 ≤ 6
      · rw [if_pos c]
        split
        · exact ⟨hb, by omega⟩
        · refine ⟨fun y hy => ?_, by rw [List.length_append]; simp⟩
          rcases List.mem_append.1 hy with hy | hy
          · exact hb y hy
          · rw [List.mem_singleton.1 hy]
            exact List.length_eq_zero_iff.1 c.1
      · rw [if_neg c]
        obtain ⟨g1, g2⟩ := ih.2 x.f3 l (by omega) hb
        exact ⟨g1, by omega⟩
    refine ⟨hX, fun m => ?_⟩
    induction m with
    | nil => intro l _ hb; rw [leavesXS]; exact ⟨hb, by omega⟩
    | cons y t iht =>
      intro l h hb
      rw [nodesBS] at h ⊢
      rw [leavesXS]
      obtain ⟨g1, g2⟩ := hX y l (by omega) hb
      obtain ⟨h1, h2⟩ := iht (leavesX y l) (by omega) g1
      exact ⟨h1, by omega⟩
theorem hasLeaf2 (k : Nat) (hk : 8 < k) (x : S29) (l : List S29) (hb : bare l) : impl_LeavesOf.has k x l = some (l.any fun y => sameC y x) := by
  induction l with
  | nil => rfl
  | cons y t ih =>
    have hy : y.f3 = [] := hb y List.mem_cons_self
    rw [impl_LeavesOf.has, equal2C 0 y.f0 y.f1 y.f2 y.f3 x.f0 x.f1 x.f2 x.f3 k (by rw [hy, nodesBS]; exact Nat.le_refl _) (by omega) (by omega), Option.bind_some, etaB, etaB, ih (fun z hz => hb z (List.mem_cons_of_mem _ hz)), List.any_cons]
    cases sameC y x
    · rw [if_neg (by simp), Bool.false_or]
    · rw [if_pos rfl, Bool.true_or]
theorem leaves2 (N : Nat) : ∀ (x : S29) (l : List S29) (k : Nat), nodesB x ≤ N → N ≤ 1048577 → bare l → l.length + nodesB x ≤ 4194304 → 4 * N + 12 < k → impl_LeavesOf.g k x l = some (leavesX x l) := by
  induction N with
  | zero => intro x l k h; rw [nodesB_eq] at h; omega
  | succ N ih =>
    intro x l k h hN hb hl hk
    obtain ⟨k, rfl⟩ : ∃ m, k = m + 1 := ⟨k - 1, by omega⟩
    rw [impl_LeavesOf.g, leavesX_eq]
    rw [nodesB_eq] at h hl
    by_cases c : x.f3.length = 0 ∧ 2 ≤ x.f0 ∧ x.f0 ≤ 6
    · rw [if_pos ⟨c.2.1, c.2.2, c.1⟩, if_pos c, hasLeaf2 k (by omega) x l hb, Option.bind_some]
      have h0 := List.length_eq_zero_iff.1 c.1
      split
      · rw [Option.bind_some, h0]; rfl
      · rw [copy2 0 x.f0 x.f1 x.f2 x.f3 k (by rw [h0, nodesBS]; exact Nat.le_refl _) (by omega) (by omega), Option.bind_some, if_pos (by omega), Option.bind_some, h0]
        cases x
        simp only at h0
        subst h0
        rfl
    · rw [if_neg (fun q => c ⟨q.2.2, q.1, q.2.1⟩), if_neg c, Option.bind_some]
      have key : ∀ (m : List S29) (l : List S29), nodesBS m ≤ N → bare l → l.length + nodesBS m ≤ 4194304 → m.foldlM (fun l y => impl_LeavesOf.g k y l) l = some (leavesXS m l) := by
        intro m
        induction m with
        | nil => intro l _ _ _; rw [leavesXS]; rfl
        | cons y t iht =>
          intro l h1 h2 h3
          rw [nodesBS] at h1 h3
          obtain ⟨g1, g2⟩ := (leaves_bare N).1 y l (by omega) h2
          rw [List.foldlM_cons, ih y l k (by omega) (by omega) h2 (by omega) (by omega), leavesXS]
          exact iht _ (by omega) g1 (by omega)
      exact key x.f3 l (by omega) hb (by omega)
theorem size2 (N : Nat) : ∀ (a b c : Int) (l : List S29) (k : Nat), nodesBS l ≤ N → N ≤ 1048576 → 4 * N + 4 < k → impl_SizeOf.f k a b c l = some (1 + (nodesBS l : Int)) := by
  induction N using Nat.strongRecOn with
  | _ N ih =>
    intro a b c l k hN hN2 hk
    obtain ⟨k, rfl⟩ : ∃ m, k = m + 1 := ⟨k - 1, by omega⟩
    have hb := nodesBS_below l
    simp only [impl_SizeOf.f]
    rcases Nat.eq_zero_or_pos l.length with hz | hz
    · obtain rfl : l = [] := List.eq_nil_of_length_eq_zero hz
      obtain ⟨k, rfl⟩ : ∃ m, k = m + 1 := ⟨k - 1, by omega⟩
      simp [impl_SizeOf.l0, nodesBS]
    have h := run (fun k s i => impl_SizeOf.l0 k s l (l.length : Int) i) (fun i => 1 + (((l.take i).map nodesB).sum : Int)) l.length (4 * (N - l.length) + 6) (1 + (nodesBS l : Int)) ?_ ?_ k (by omega)
    · simpa using h
    · intro k i hk hi
      have hm := getD_mem l i z29 hi
      have hlt := nodesB_lt l _ hm
      have hle : ((l.take i).map nodesB).sum + nodesB (l.getD i z29) = ((l.take (i + 1)).map nodesB).sum := by
        rw [List.take_succ_eq_append_getElem hi, List.map_append, List.sum_append, getD_get l i _ hi]
        simp
      have hle2 : ((l.take (i + 1)).map nodesB).sum ≤ nodesBS l := by
        rw [nodesBS_sum]
        have h3 : (l.map nodesB).sum = ((l.take (i + 1)).map nodesB).sum + ((l.drop (i + 1)).map nodesB).sum := by rw [← List.sum_append, ← List.map_append, List.take_append_drop]
        omega
      have hn := nodesB_eq (l.getD i z29)
      simp only [impl_SizeOf.l0, rdCB]
      rw [if_pos (by omega), if_pos (by omega), if_pos (by omega), ih (N - l.length) (by omega) _ _ _ _ k (by omega) (by omega) (by omega), Option.bind_some, wrap_succ hi (by omega), wrap_in (by omega) (by omega)]
      congr 1
      omega
    · intro k _
      simp only [impl_SizeOf.l0]
      rw [if_neg (by omega), List.take_of_length_le (Nat.le_refl _), nodesBS_sum]
theorem in2 (x y z : Int) : impl_InRange.f x y z = some (decide (y ≤ x ∧ x ≤ z)) := by
  unfold impl_InRange.f
  by_cases h : y ≤ x
  · rw [if_pos h]; simp [h]
  · rw [if_neg h]; simp; omega
def arity (op : Int) : Int := if op = 7 then 1 else if op = 8 then 2 else if op = 9 then 2 else if 1 ≤ op ∧ op ≤ 6 then 0 else -1
def amax (op : Int) : Int := if op = 2 then 5 else if op = 4 then 3 else if op = 5 then 3 else if op = 6 then 10000 else 0
def bmax (op : Int) : Int := if 2 ≤ op ∧ op ≤ 5 then 10000 else 0
def nodeOk (op a b : Int) (n : Nat) : Bool := decide ((n : Int) = arity op) && (decide (0 ≤ a ∧ a ≤ amax op) && decide (0 ≤ b ∧ b ≤ bmax op))
theorem arity2 (op : Int) (k : Nat) : impl_ArityOf.f (k + 1) op = some (arity op) := by
  simp only [impl_ArityOf.f, impl_ArityOf.j0, in2, Option.bind_some]
  unfold arity
  by_cases h7 : op = 7
  · simp [h7]
  by_cases h8 : op = 8
  · simp [h8]
  by_cases h9 : op = 9
  · simp [h9]
  by_cases h : 1 ≤ op ∧ op ≤ 6
  · simp [h7, h8, h9, h]
  · simp [h7, h8, h9, h]
theorem node2 (op a b : Int) (l : List S29) (k : Nat) : impl_isNode.f (k + 1 + 1 + 1) op a b l = some (nodeOk op a b l.length) := by
  simp only [impl_isNode.f, impl_isNode.j0, impl_isNode.j1, arity2, in2, Option.bind_some]
  unfold nodeOk amax bmax
  generalize arity op = z
  by_cases h2 : op = 2
  · subst h2; by_cases hz : (l.length : Int) = z <;> simp [hz] <;> (split <;> rename_i hp <;> simp [hp] <;> omega)
  by_cases h4 : op = 4
  · subst h4; by_cases hz : (l.length : Int) = z <;> simp [hz] <;> (split <;> rename_i hp <;> simp [hp] <;> omega)
  by_cases h5 : op = 5
  · subst h5; by_cases hz : (l.length : Int) = z <;> simp [hz] <;> (split <;> rename_i hp <;> simp [hp] <;> omega)
  by_cases h6 : op = 6
  · subst h6; by_cases hz : (l.length : Int) = z <;> simp [hz] <;> (split <;> rename_i hp <;> simp [hp] <;> omega)
  by_cases h : 2 ≤ op ∧ op ≤ 5
  · by_cases hz : (l.length : Int) = z <;> simp [hz, h2, h4, h5, h6, h] <;> (split <;> rename_i hp <;> simp [hp] <;> omega)
  · by_cases hz : (l.length : Int) = z <;> simp [hz, h2, h4, h5, h6, h] <;> (split <;> rename_i hp <;> simp [hp] <;> omega)
def okSep : Unit := ()
mutual
def okB : S29 → Bool
  | ⟨a, b, c, l⟩ => nodeOk a b c l.length && okBS l
def okBS : List S29 → Bool
  | [] => true
  | x :: l => okB x && okBS l
end
theorem okB_eq (x : S29) : okB x = (nodeOk x.f0 x.f1 x.f2 x.f3.length && okBS x.f3) := by cases x; rw [okB]
theorem okBS_all (l : List S29) : okBS l = l.all okB := by
  induction l with
  | nil => rw [okBS]; rfl
  | cons x l ih => rw [okBS, ih]; rfl
theorem okBS_range (l : List S29) : (List.range l.length).all (fun i => okB (l.getD i z29)) = okBS l := by rw [okBS_all, all_range_getD l z29 okB]
theorem valid2 (N : Nat) : ∀ (a b c : Int) (l : List S29) (k : Nat), nodesBS l ≤ N → N ≤ 1048576 → 7 * N + 9 < k → impl_areNodes.f k a b c l = some (nodeOk a b c l.length && okBS l) := by
  induction N using Nat.strongRecOn with
  | _ N ih =>
    intro a b c l k hN hN2 hk
    obtain ⟨k, rfl⟩ : ∃ m, k = m + 1 + 1 + 1 + 1 := ⟨k - 4, by omega⟩
    have hb := nodesBS_below l
    rw [impl_areNodes.f, node2, Option.bind_some]
    by_cases h : nodeOk a b c l.length = true
    · rw [if_pos h, h, Bool.true_and, impl_Cond_35.f, impl_Cond_42.f]
      have hl : impl_Cond_42.l0 (k + 1) l (l.length : Int) 0 = some (((List.range l.length).find? fun i => !okB (l.getD i z29)).elim (-1) fun i => (i : Int)) := by
        rcases Nat.eq_zero_or_pos l.length with hz | hz
        · obtain rfl : l = [] := List.eq_nil_of_length_eq_zero hz
          rw [impl_Cond_42.l0, if_neg (by simp)]
          rfl
        refine findLoop (fun k i => impl_Cond_42.l0 k l (l.length : Int) i) l.length (7 * (N - l.length) + 11) (fun i => !okB (l.getD i z29)) (fun i => (i : Int)) (-1) ?_ ?_ ?_ (k + 1) (by omega)
        · intro k i hk hi hp
          obtain ⟨k, rfl⟩ : ∃ m, k = m + 1 := ⟨k - 1, by omega⟩
          have hlt := nodesB_lt l _ (getD_mem l i z29 hi)
          rw [impl_Cond_42.l0, if_pos (by omega), if_pos (by omega), if_pos (by omega), rdCB, impl_areNodes_1.f, ih (N - l.length) (by omega) _ _ _ _ k (by omega) (by omega) (by omega), Option.bind_some, Option.bind_some, ← okB_eq, hp, if_neg (by simp), wrap_succ hi (by omega)]
        · intro k i hk hi hp
          obtain ⟨k, rfl⟩ : ∃ m, k = m + 1 := ⟨k - 1, by omega⟩
          have hlt := nodesB_lt l _ (getD_mem l i z29 hi)
          rw [impl_Cond_42.l0, if_pos (by omega), if_pos (by omega), if_pos (by omega), rdCB, impl_areNodes_1.f, ih (N - l.length) (by omega) _ _ _ _ k (by omega) (by omega) (by omega), Option.bind_some, Option.bind_some, ← okB_eq, hp, if_pos rfl]
        · intro k _
          rw [impl_Cond_42.l0, if_neg (by omega)]
      rw [hl, Option.bind_some, Option.bind_some, ← okBS_range]
      congr 1
      cases hf : (List.range l.length).find? fun i => !okB (l.getD i z29) with
      | none =>
        rw [List.find?_eq_none] at hf
        show (!decide ((-1 : Int) ≥ 0)) = _
        rw [show (!decide ((-1 : Int) ≥ 0)) = true from rfl, eq_comm, List.all_eq_true]
        intro i hi
        simpa using hf i hi
      | some i =>
        rw [List.find?_range_eq_some] at hf
        show (!decide ((i : Int) ≥ 0)) = _
        rw [decide_eq_true (show (i : Int) ≥ 0 by omega), eq_comm, show (!true) = false from rfl, List.all_eq_false]
        exact ⟨i, hf.2.1, by simpa using hf.1⟩
    · rw [if_neg h, Bool.eq_false_iff.2 h, Bool.false_and]
/-- What is left of n behind a tree: n - 1 - its other nodes, or less than 0. -/
def leftOk (n : Int) (s : Nat) (r : Int) : Prop := if (s : Int) ≤ n then r = n - (s : Int) else r < 0
theorem and255 (x : Int) : 0 ≤ Go.bits .and .i64 x 255 ∧ Go.bits .and .i64 x 255 ≤ 255 := by
  unfold Go.bits
  simp only
  have h : (BitVec.ofInt IntKind.i64.bits x &&& BitVec.ofInt IntKind.i64.bits 255).toNat ≤ 255 := by
    rw [BitVec.toNat_and]
    exact Nat.le_trans Nat.and_le_right (by decide)
  rw [IntKind.wrap_i64]
  omega
/-- What a draw gives: something, and the place is still one of the list. -/
def Drawn {α : Type} (l : List Int) (r : Option (α × Int × Int)) (Q : α → Prop) : Prop := ∃ v i h, r = some (v, i, h) ∧ Q v ∧ 0 ≤ i ∧ i ≤ (l.length : Int)
theorem dByte (l : List Int) (hl : l.length ≤ 1048576) (i h : Int) (h0 : 0 ≤ i) (h1 : i ≤ (l.length : Int)) : Drawn l (spec_l1Byte.f l i h) fun v => 0 ≤ v ∧ v ≤ 255 := by
  unfold spec_l1Byte.f
  by_cases c : i < (l.length : Int)
  · rw [if_pos c, if_pos h0, wrap_in (x := i + 1) (by omega) (by omega)]
    exact ⟨_, _, _, rfl, and255 _, by omega, by omega⟩
  · rw [if_neg c]
    exact ⟨_, _, _, rfl, and255 _, by omega, by omega⟩
theorem dBelow (l : List Int) (hl : l.length ≤ 1048576) (i h : Int) (h0 : 0 ≤ i) (h1 : i ≤ (l.length : Int)) (n : Int) (hn : 0 < n) : Drawn l (spec_l1Below.f l i h n) fun v => 0 ≤ v ∧ v < n := by
  unfold spec_l1Below.f
  rw [if_neg (by omega)]
  by_cases c : n ≤ 256
  · rw [if_pos c]
    obtain ⟨v, i1, s1, e, ⟨g0, _⟩, p0, p1⟩ := dByte l hl i h h0 h1
    rw [e, Option.bind_some, if_neg (by omega)]
    exact ⟨_, _, _, rfl, ⟨Int.tmod_nonneg _ g0, Int.tmod_lt_of_pos _ hn⟩, p0, p1⟩
  · rw [if_neg c]
    obtain ⟨v, i1, s1, e, ⟨g0, g1⟩, p0, p1⟩ := dByte l hl i h h0 h1
    obtain ⟨v2, i2, s2, e2, ⟨g2, g3⟩, p2, p3⟩ := dByte l hl i1 s1 p0 p1
    obtain ⟨v3, i3, s3, e3, ⟨g4, g5⟩, p4, p5⟩ := dByte l hl i2 s2 p2 p3
    simp only [e, e2, e3, Option.bind_some]
    rw [if_neg (by omega), wrap_in (x := v * 65536) (by omega) (by omega), wrap_in (x := v2 * 256) (by omega) (by omega), wrap_in (x := v * 65536 + v2 * 256) (by omega) (by omega), wrap_in (by omega) (by omega)]
    exact ⟨_, _, _, rfl, ⟨Int.tmod_nonneg _ (by omega), Int.tmod_lt_of_pos _ hn⟩, p4, p5⟩
theorem dOnce (l : List Int) (hl : l.length ≤ 1048576) (i h : Int) (h0 : 0 ≤ i) (h1 : i ≤ (l.length : Int)) (n : Int) (hn : 0 < n) : Drawn l (spec_l1Once.f l i h n) fun _ => True := by
  unfold spec_l1Once.f
  obtain ⟨v, i1, s1, e, _, p0, p1⟩ := dBelow l hl i h h0 h1 n hn
  rw [e, Option.bind_some]
  exact ⟨_, _, _, rfl, trivial, p0, p1⟩
theorem dInt (l : List Int) (hl : l.length ≤ 1048576) (i h : Int) (h0 : 0 ≤ i) (h1 : i ≤ (l.length : Int)) (c : List Int) (hc : 0 < c.length) : Drawn l (spec_l1Int.f l i h c) fun v => v ∈ c := by
  unfold spec_l1Int.f
  obtain ⟨v, i1, s1, e, ⟨g0, g1⟩, p0, p1⟩ := dBelow l hl i h h0 h1 (c.length : Int) (by omega)
  rw [e, Option.bind_some, if_pos g0, if_pos g1]
  refine ⟨_, _, _, rfl, ?_, p0, p1⟩
  unfold rd
  exact getD_mem c _ 0 (by omega)
def seedOf (l : List Int) : Nat → Int
  | 0 => wrap64 (193017 + (l.length : Int))
  | i + 1 => Go.bits .and .i64 (wrap64 ((wrap64 ((wrap64 (seedOf l i * 137)) + (wrap64 (l.getD i 0)))) + 11)) 1073741823
theorem new1 (l : List Int) (hl : l.length ≤ 1048576) (k : Nat) (hk : 1048577 < k) : spec_l1New.f k l = some (l, 0, seedOf l (min l.length 4000)) := by
  unfold spec_l1New.f
  refine run (fun k s i => spec_l1New.l0 k l s i) (seedOf l) (min l.length 4000) 0 _ ?_ ?_ k (by omega)
  · intro k i _ hi
    simp only [spec_l1New.l0, rd_nat]
    rw [if_pos (by omega), if_pos (by omega), if_pos (by omega), wrap_succ hi (by omega)]
    rfl
  · intro k _
    simp only [spec_l1New.l0]
    by_cases c : l.length < 4000
    · rw [Nat.min_eq_left (by omega), if_neg (by omega)]
    · rw [Nat.min_eq_right (by omega)]
      split
      · rw [if_neg (by omega)]
      · rfl
theorem nodesBS_append (l m : List S29) : nodesBS (l ++ m) = nodesBS l + nodesBS m := by
  rw [nodesBS_sum, nodesBS_sum, nodesBS_sum, List.map_append, List.sum_append]
theorem nodesBS_one (x : S29) : nodesBS [x] = 1 + nodesBS x.f3 := by
  rw [nodesBS, nodesBS, nodesB_eq, Nat.add_zero]
theorem nodesBS_two (x y : S29) : nodesBS [x, y] = 1 + nodesBS x.f3 + (1 + nodesBS y.f3) := by
  rw [nodesBS, nodesBS_one, nodesB_eq]
/-- A drawn node whose parts are few. -/
def DrawnC (l : List Int) (B : Nat) (r : Option (Int × Int × Int × List S29 × Int × Int)) : Prop := ∃ a b c m i h, r = some (a, b, c, m, i, h) ∧ nodesBS m ≤ B ∧ 0 ≤ i ∧ i ≤ (l.length : Int)
theorem nodes_nil : nodesBS ([] : List S29) = 0 := by rw [nodesBS]
theorem dLeaf (l : List Int) (hl : l.length ≤ 1048576) (B : Nat) (i h : Int) (h0 : 0 ≤ i) (h1 : i ≤ (l.length : Int)) (k : Nat) (hk : 1 < k) : DrawnC l B (spec_l15Leaf.f k l i h) := by
  have J : ∀ (x3 x8 : Int) (t : Bool) (i h : Int), 0 ≤ i → i ≤ (l.length : Int) → DrawnC l B (spec_l15Leaf.j0 k x3 x8 t l i h) := by
    intro x3 x8 t i h h0 h1
    obtain ⟨k, rfl⟩ : ∃ m, k = m + 1 := ⟨k - 1, by omega⟩
    simp only [spec_l15Leaf.j0]
    split
    · obtain ⟨v, i, h, e, _, h0, h1⟩ := dBelow l hl i h h0 h1 3 (by omega)
      simp only [e, Option.bind_some]
      exact ⟨_, _, _, _, _, _, rfl, by rw [nodes_nil]; omega, h0, h1⟩
    split
    · exact ⟨_, _, _, _, _, _, rfl, by rw [nodes_nil]; omega, h0, h1⟩
    split
    · obtain ⟨v, i, h, e, _, h0, h1⟩ := dBelow l hl i h h0 h1 3 (by omega)
      simp only [e, Option.bind_some]
      exact ⟨_, _, _, _, _, _, rfl, by rw [nodes_nil]; omega, h0, h1⟩
    split
    · obtain ⟨v, i, h, e, _, h0, h1⟩ := dBelow l hl i h h0 h1 2 (by omega)
      simp only [e, Option.bind_some]
      exact ⟨_, _, _, _, _, _, rfl, by rw [nodes_nil]; omega, h0, h1⟩
    · obtain ⟨v, i, h, e, _, h0, h1⟩ := dInt l hl i h h0 h1 [5, 15, 25] (by simp)
      simp only [e, Option.bind_some]
      exact ⟨_, _, _, _, _, _, rfl, by rw [nodes_nil]; omega, h0, h1⟩
  unfold spec_l15Leaf.f
  obtain ⟨v, i, h, e, _, h0, h1⟩ := dInt l hl i h h0 h1 [3, 10, 20] (by simp)
  simp only [e, Option.bind_some]
  clear e
  obtain ⟨v2, i, h, e, _, h0, h1⟩ := dBelow l hl i h h0 h1 7 (by omega)
  simp only [e, Option.bind_some]
  clear e
  split
  · exact ⟨_, _, _, _, _, _, rfl, by rw [nodes_nil]; omega, h0, h1⟩
  split
  · exact J _ _ _ i h h0 h1
  · exact J _ _ _ i h h0 h1
def bnd : Nat → Nat
  | 0 => 0
  | d + 1 => 2 + 2 * bnd d
theorem dCond (l : List Int) (hl : l.length ≤ 1048576) (d : Nat) : ∀ (k : Nat) (i h : Int), d ≤ 2 → 0 ≤ i → i ≤ (l.length : Int) → 100 + 10 * d < k → DrawnC l (bnd d) (spec_l15Cond.f k l i h (d : Int)) := by
  induction d with
  | zero =>
    intro k i h _ h0 h1 hk
    obtain ⟨k, rfl⟩ : ∃ m, k = m + 1 + 1 := ⟨k - 2, by omega⟩
    rw [spec_l15Cond.f, if_pos (by omega)]
    rw [spec_l15Cond.j0, if_pos rfl]
    obtain ⟨a, b, c, m, i, h, e, g, h0, h1⟩ := dLeaf l hl 0 i h h0 h1 k (by omega)
    simp only [e, Option.bind_some]
    exact ⟨_, _, _, _, _, _, rfl, g, h0, h1⟩
  | succ d ih =>
    intro k i h hd h0 h1 hk
    obtain ⟨k, rfl⟩ : ∃ m, k = m + 1 + 1 + 1 := ⟨k - 3, by omega⟩
    have hb : bnd d ≤ 2 := by
      have : d = 0 ∨ d = 1 := by omega
      rcases this with rfl | rfl
      · exact Nat.zero_le _
      · exact Nat.le_refl _
    have hw : wrap64 (((d + 1 : Nat) : Int) - 1) = (d : Int) := by
      rw [wrap_in (by omega) (by omega)]
      omega
    have hbd : bnd (d + 1) = 2 + 2 * bnd d := rfl
    have J1 : ∀ (t : Bool) (i h : Int), 0 ≤ i → i ≤ (l.length : Int) → DrawnC l (bnd (d + 1)) (spec_l15Cond.j1 (k + 1) ((d + 1 : Nat) : Int) t l i h) := by
      intro t i h h0 h1
      rw [spec_l15Cond.j1, hw]
      split
      · obtain ⟨a, b, c, m, i, h, e, g, h0, h1⟩ := ih k i h (by omega) h0 h1 (by omega)
        simp only [e, Option.bind_some]
        clear e
        obtain ⟨a', b', c', m', i, h, e, g', h0, h1⟩ := ih k i h (by omega) h0 h1 (by omega)
        simp only [e, Option.bind_some, spec_CondAnd.f, copy1 2 a b c m k (by omega) (by omega) (by omega), copy1 2 a' b' c' m' k (by omega) (by omega) (by omega)]
        exact ⟨_, _, _, _, _, _, rfl, by rw [nodesBS_two, hbd]; simp only; omega, h0, h1⟩
      · obtain ⟨a, b, c, m, i, h, e, g, h0, h1⟩ := ih k i h (by omega) h0 h1 (by omega)
        simp only [e, Option.bind_some]
        clear e
        obtain ⟨a', b', c', m', i, h, e, g', h0, h1⟩ := ih k i h (by omega) h0 h1 (by omega)
        simp only [e, Option.bind_some, spec_CondOr.f, copy1 2 a b c m k (by omega) (by omega) (by omega), copy1 2 a' b' c' m' k (by omega) (by omega) (by omega)]
        exact ⟨_, _, _, _, _, _, rfl, by rw [nodesBS_two, hbd]; simp only; omega, h0, h1⟩
    have J0 : ∀ (t : Bool) (i h : Int), 0 ≤ i → i ≤ (l.length : Int) → DrawnC l (bnd (d + 1)) (spec_l15Cond.j0 (k + 1 + 1) ((d + 1 : Nat) : Int) t l i h) := by
      intro t i h h0 h1
      rw [spec_l15Cond.j0]
      split
      · obtain ⟨a, b, c, m, i, h, e, g, h0, h1⟩ := dLeaf l hl (bnd (d + 1)) i h h0 h1 (k + 1) (by omega)
        simp only [e, Option.bind_some]
        exact ⟨_, _, _, _, _, _, rfl, g, h0, h1⟩
      · obtain ⟨v, i, h, e, _, h0, h1⟩ := dBelow l hl i h h0 h1 5 (by omega)
        simp only [e, Option.bind_some]
        clear e
        split
        · obtain ⟨a, b, c, m, i, h, e, g, h0, h1⟩ := ih (k + 1) i h (by omega) h0 h1 (by omega)
          rw [hw]
          simp only [e, Option.bind_some, spec_CondNot.f, copy1 2 a b c m (k + 1) (by omega) (by omega) (by omega)]
          exact ⟨_, _, _, _, _, _, rfl, by rw [nodesBS_one, hbd]; simp only; omega, h0, h1⟩
        split
        · exact J1 _ i h h0 h1
        · exact J1 _ i h h0 h1
    rw [spec_l15Cond.f]
    split
    · exact J0 true i h h0 h1
    · obtain ⟨v, i, h, e, _, h0, h1⟩ := dOnce l hl i h h0 h1 3 (by omega)
      simp only [e, Option.bind_some]
      exact J0 _ i h h0 h1
theorem dAnyC (l : List Int) (hl : l.length ≤ 1048576) (i h : Int) (h0 : 0 ≤ i) (h1 : i ≤ (l.length : Int)) (k : Nat) (hk : 200 < k) : DrawnC l 7 (spec_l15Any.f k l i h) := by
  unfold spec_l15Any.f
  obtain ⟨a, b, c, m, i, h, e, g, h0, h1⟩ := dCond l hl 2 k i h (by omega) h0 h1 (by omega)
  have g' : nodesBS m ≤ 6 := g
  simp only [show ((2 : Nat) : Int) = 2 from rfl] at e
  simp only [e, Option.bind_some]
  clear e g
  obtain ⟨v, i, h, e, _, h0, h1⟩ := dBelow l hl i h h0 h1 8 (by omega)
  simp only [e, Option.bind_some]
  clear e
  split
  · obtain ⟨v, i, h, e, _, h0, h1⟩ := dBelow l hl i h h0 h1 11 (by omega)
    simp only [e, Option.bind_some]
    exact ⟨_, _, _, _, _, _, rfl, by omega, h0, h1⟩
  split
  · obtain ⟨v, i, h, e, _, h0, h1⟩ := dInt l hl i h h0 h1 [(-1), 0, 3, 4, 5, 6, 10000, 10001] (by simp)
    simp only [e, Option.bind_some]
    exact ⟨_, _, _, _, _, _, rfl, by omega, h0, h1⟩
  split
  · obtain ⟨v, i, h, e, _, h0, h1⟩ := dInt l hl i h h0 h1 [(-1), 0, 10000, 10001] (by simp)
    simp only [e, Option.bind_some]
    exact ⟨_, _, _, _, _, _, rfl, by omega, h0, h1⟩
  split
  · obtain ⟨a', b', c', m', i, h, e, g2, h0, h1⟩ := dLeaf l hl 0 i h h0 h1 k (by omega)
    have hlen := nodesBS_below m
    simp only [e, Option.bind_some]
    rw [if_pos (by omega)]
    exact ⟨_, _, _, _, _, _, rfl, by rw [nodesBS_append, nodesBS_one]; simp only; omega, h0, h1⟩
  · exact ⟨_, _, _, _, _, _, rfl, by omega, h0, h1⟩
theorem dConds (l : List Int) (hl : l.length ≤ 1048576) (k : Nat) (hk : 1048577 < k) : ∃ a b c m a' b' c' m', spec_DrawCondAnd.f k l = some (a, b, c, m, a', b', c', m') ∧ nodesBS m ≤ 7 ∧ nodesBS m' ≤ 7 := by
  unfold spec_DrawCondAnd.f spec_DrawEqualConds.f
  rw [new1 l hl k hk, Option.bind_some]
  obtain ⟨a, b, c, m, i, h, e, g, h0, h1⟩ := dAnyC l hl 0 (seedOf l (min l.length 4000)) (by omega) (by omega) k (by omega)
  simp only [e, Option.bind_some]
  clear e
  obtain ⟨v, i, h, e, _, h0, h1⟩ := dOnce l hl i h h0 h1 2 (by omega)
  simp only [e, Option.bind_some]
  clear e
  cases v with
  | true =>
    rw [if_pos rfl, copy1 7 a b c m k g (by omega) (by omega)]
    exact ⟨_, _, _, _, _, _, _, _, rfl, g, g⟩
  | false =>
    rw [if_neg (by simp)]
    obtain ⟨a', b', c', m', i, h, e, g', h0, h1⟩ := dAnyC l hl i h h0 h1 k (by omega)
    simp only [e, Option.bind_some]
    exact ⟨_, _, _, _, _, _, _, _, rfl, g, g'⟩
/-- Leaves are told once each. -/
def told (l : List S29) : Prop := (∀ y ∈ l, 2 ≤ y.f0 ∧ y.f0 ≤ 6) ∧ l.Pairwise (· ≠ ·)
theorem leaves_told (N : Nat) : (∀ (x : S29) (l : List S29), nodesB x ≤ N → told l → told (leavesX x l)) ∧ (∀ (m : List S29) (l : List S29), nodesBS m ≤ N → told l → told (leavesXS m l)) := by
  induction N with
  | zero =>
    refine ⟨fun x l h _ => ?_, fun m l h hb => ?_⟩
    · rw [nodesB_eq] at h
      omega
    · cases m with
      | nil => rw [leavesXS]; exact hb
      | cons y t => rw [nodesBS, nodesB_eq] at h; omega
  | succ N ih =>
    have hX : ∀ (x : S29) (l : List S29), nodesB x ≤ N + 1 → told l → told (leavesX x l) := by
      intro x l h hb
      rw [nodesB_eq] at h
      rw [leavesX_eq]
      by_cases c : x.f3.length = 0 ∧ 2 ≤ x.f0 ∧ x.f0 ≤ 6
      · rw [if_pos c]
        split
        · exact hb
        · rename_i hn
          refine ⟨fun y hy => ?_, ?_⟩
          · rcases List.mem_append.1 hy with hy | hy
            · exact hb.1 y hy
            · rw [List.mem_singleton.1 hy]
              exact c.2
          · rw [List.pairwise_append]
            refine ⟨hb.2, List.pairwise_singleton _ _, fun y hy z hz => ?_⟩
            rw [List.mem_singleton.1 hz]
            rintro rfl
            refine hn ?_
            rw [List.any_eq_true]
            exact ⟨y, hy, (sameC_iff y y).2 rfl⟩
      · rw [if_neg c]
        exact ih.2 x.f3 l (by omega) hb
    refine ⟨hX, fun m => ?_⟩
    induction m with
    | nil => intro l _ hb; rw [leavesXS]; exact hb
    | cons y t iht =>
      intro l h hb
      rw [nodesBS] at h
      rw [leavesXS]
      exact iht (leavesX y l) (by omega) (hX y l (by omega) hb)
def isC (x : S29) : Bool := decide (1 + nodesBS x.f3 ≤ 15) && okB x
theorem isC2 (x : S29) (k : Nat) (h : nodesBS x.f3 ≤ 20) (hk : 200 < k) : impl_IsCond.f k x.f0 x.f1 x.f2 x.f3 = some (isC x) := by
  rw [impl_IsCond.f, size2 20 x.f0 x.f1 x.f2 x.f3 k h (by omega) (by omega), Option.bind_some, valid2 20 x.f0 x.f1 x.f2 x.f3 k h (by omega) (by omega)]
  unfold isC
  rw [okB_eq]
  by_cases q : 1 + nodesBS x.f3 ≤ 15
  · rw [if_pos (by omega), decide_eq_true q, Bool.true_and]
    rfl
  · rw [if_neg (by omega), decide_eq_false q, Bool.false_and]
theorem arity_leaf (op : Int) (h : 2 ≤ op ∧ op ≤ 6) : arity op = 0 := by
  unfold arity
  rw [if_neg (by omega), if_neg (by omega), if_neg (by omega), if_pos (by omega)]
theorem fcInner (R : List S29) (hR : R.length ≤ 100) (hb : bare R) (ht : told R) (a b c : Int) (m : List S29) (i : Nat) (hi : i < R.length) (F : Nat) (hF : 100 < F) (next : ∀ k, F < k → laws_FnConditions.l0 k R ((i + 1 : Nat) : Int) a b c m = some true) : ∀ (d j k : Nat), j + d = i → F + d + 2 < k → laws_FnConditions.l1 k R (i : Int) (j : Int) a b c m = some true := by
  have hri : rd_T29 R (i : Int) = R[i] := by rw [rdCB, getD_get R i _ hi]
  intro d
  induction d with
  | zero =>
    intro j k hj hk
    obtain ⟨k, rfl⟩ : ∃ n, k = n + 1 + 1 := ⟨k - 2, by omega⟩
    have hmem := List.getElem_mem hi
    rw [laws_FnConditions.l1, if_neg (by omega), if_pos (by omega), if_pos (by omega), hri, hb _ hmem, if_pos (by rfl), arity2, Option.bind_some, arity_leaf _ (ht.1 _ hmem), if_pos rfl, wrap_succ hi (by omega)]
    exact next (k + 1) (by omega)
  | succ d ih =>
    intro j k hj hk
    obtain ⟨k, rfl⟩ : ∃ n, k = n + 1 := ⟨k - 1, by omega⟩
    have hjl : j < R.length := by omega
    have hrj : rd_T29 R (j : Int) = R[j] := by rw [rdCB, getD_get R j _ hjl]
    have hne : R[i] ≠ R[j] := Ne.symm ((List.pairwise_iff_getElem.1 ht.2) j i hjl hi (by omega))
    have h0 : nodesBS R[i].f3 ≤ 0 := by rw [hb _ (List.getElem_mem hi), nodes_nil]; exact Nat.le_refl _
    rw [laws_FnConditions.l1, if_pos (by omega), if_pos (by omega), if_pos (by omega), if_pos (by omega), if_pos (by omega), hri, hrj, equal2C 0 R[i].f0 R[i].f1 R[i].f2 R[i].f3 R[j].f0 R[j].f1 R[j].f2 R[j].f3 k h0 (by omega) (by omega), Option.bind_some, etaB, etaB, sameC_no _ _ hne, if_neg (by simp), wrap_succ hjl (by omega)]
    exact ih (j + 1) k (by omega) (by omega)
theorem fcOuter (R : List S29) (hR : R.length ≤ 100) (hb : bare R) (ht : told R) (a b c : Int) (m : List S29) (hm : nodesBS m ≤ 7) (hl : R.length ≤ 1 + nodesBS m) (n : Nat) : ∀ (i k : Nat), i + n = R.length → 200 + 200 * n < k → laws_FnConditions.l0 k R (i : Int) a b c m = some true := by
  induction n with
  | zero =>
    intro i k hi hk
    obtain ⟨k, rfl⟩ : ∃ n, k = n + 1 := ⟨k - 1, by omega⟩
    rw [laws_FnConditions.l0, if_neg (by omega), size2 7 a b c m k hm (by omega) (by omega), Option.bind_some, if_pos (by omega), equal2C 7 a b c m a b c m k hm (by omega) (by omega), Option.bind_some]
    exact congrArg some ((sameC_iff _ _).2 rfl)
  | succ n ih =>
    intro i k hi hk
    obtain ⟨k, rfl⟩ : ∃ n, k = n + 1 := ⟨k - 1, by omega⟩
    rw [laws_FnConditions.l0, if_pos (by omega)]
    exact fcInner R hR hb ht a b c m i (by omega) (200 + 200 * n) (by omega) (fun k hk => ih (i + 1) k (by omega) hk) i 0 k (by omega) (by omega)
theorem andOk (a b c a' b' c' : Int) (m m' : List S29) (g : nodesBS m ≤ 7) (g' : nodesBS m' ≤ 7) : isC ⟨8, 0, 0, [⟨a, b, c, m⟩, ⟨a', b', c', m'⟩]⟩ = (decide (1 + (nodesBS [(⟨a, b, c, m⟩ : S29), ⟨a', b', c', m'⟩] : Int) ≤ 15) && (isC ⟨a, b, c, m⟩ && isC ⟨a', b', c', m'⟩)) := by
  have hn : nodeOk 8 0 0 2 = true := by decide
  unfold isC
  rw [okB_eq, okBS_all]
  simp only [List.all_cons, List.all_nil, Bool.and_true, List.length_cons, List.length_nil, Nat.zero_add, hn, decide_eq_true (show 1 + nodesBS m ≤ 15 by omega), decide_eq_true (show 1 + nodesBS m' ≤ 15 by omega), Bool.true_and]
  congr 1
  exact decide_eq_decide.2 (by omega)
theorem fcJ (a b c a' b' c' : Int) (m m' : List S29) (g : nodesBS m ≤ 7) (g' : nodesBS m' ≤ 7) (k : Nat) (hk : 1100000 < k) : laws_FnConditions.j0 (k + 1 + 1) (1 + (nodesBS [(⟨a, b, c, m⟩ : S29), ⟨a', b', c', m'⟩] : Int)) false a b c m a' b' c' m' = some true := by
  have c1' := copy2 7 a b c m (k + 1) g (by omega) (by omega)
  have c2' := copy2 7 a' b' c' m' (k + 1) g' (by omega) (by omega)
  have n2 := nodesBS_two ⟨a, b, c, m⟩ ⟨a', b', c', m'⟩
  simp only at n2
  have i1 := isC2 ⟨a, b, c, m⟩ (k + 1) (by simp only; omega) (by omega)
  have i2 := isC2 ⟨a', b', c', m'⟩ (k + 1) (by simp only; omega) (by omega)
  have i3 := isC2 ⟨8, 0, 0, [⟨a, b, c, m⟩, ⟨a', b', c', m'⟩]⟩ (k + 1) (by simp only; omega) (by omega)
  simp only at i1 i2 i3
  have hok := andOk a b c a' b' c' m m' g g'
  obtain ⟨hb, hlen⟩ := (leaves_bare 8).1 ⟨a, b, c, m⟩ [] (by rw [nodesB_eq]; simp only; omega) (fun y hy => by cases hy)
  have ht := (leaves_told 8).1 ⟨a, b, c, m⟩ [] (by rw [nodesB_eq]; simp only; omega) ⟨fun y hy => (by cases hy), List.Pairwise.nil⟩
  have L := leaves2 8 ⟨a, b, c, m⟩ [] k (by rw [nodesB_eq]; simp only; omega) (by omega) (fun y hy => by cases hy) (by rw [nodesB_eq]; simp; omega) (by omega)
  generalize leavesX ⟨a, b, c, m⟩ [] = R at hb hlen ht L
  rw [nodesB_eq] at hlen
  have hlen' : R.length ≤ 1 + nodesBS m := by simpa using hlen
  have J1 : laws_FnConditions.j1 (k + 1) false a b c m = some true := by
    rw [laws_FnConditions.j1, if_neg (by simp), impl_LeavesOf.f, L, Option.bind_some]
    exact fcOuter R (by omega) hb ht a b c m g hlen' R.length 0 k (by omega) (by omega)
  rw [laws_FnConditions.j0, if_neg (by simp)]
  simp only [impl_CondAnd.f, c1', c2', Option.bind_some, i1, i2, i3]
  rw [hok]
  cases isC ⟨a, b, c, m⟩ with
  | false =>
    rw [if_neg (by simp), Bool.false_and, Bool.and_false, bne_self_eq_false]
    exact J1
  | true =>
    rw [if_pos (by trivial)]
    cases isC ⟨a', b', c', m'⟩ with
    | false =>
      rw [if_neg (by simp), Bool.and_false, Bool.and_false, bne_self_eq_false]
      exact J1
    | true =>
      rw [if_pos (by trivial), Bool.and_true, Bool.and_true, bne_self_eq_false]
      exact J1
theorem fcMain (l : List Int) (a b c a' b' c' : Int) (m m' : List S29) (g : nodesBS m ≤ 7) (g' : nodesBS m' ≤ 7) (k : Nat) (hk : 1100000 < k) (h : ¬ (l.length : Int) > 1048576) (e : spec_DrawCondAnd.f (k + 1 + 1) l = some (a, b, c, m, a', b', c', m')) : laws_FnConditions.f (k + 1 + 1) l = some true := by
  have J := fcJ a b c a' b' c' m m' g g' k hk
  have hK : 1100000 < k + 1 + 1 := by omega
  generalize k + 1 + 1 = K at e J hK ⊢
  have s1 := size2 7 a b c m K g (by omega) (by omega)
  have s2 := size2 7 a' b' c' m' K g' (by omega) (by omega)
  have c1 := copy2 7 a b c m K g (by omega) (by omega)
  have c2 := copy2 7 a' b' c' m' K g' (by omega) (by omega)
  have n2 := nodesBS_two ⟨a, b, c, m⟩ ⟨a', b', c', m'⟩
  have n1 := nodesBS_one ⟨a, b, c, m⟩
  simp only at n1 n2
  have s3 := fun op => size2 20 op 0 0 [⟨a, b, c, m⟩, ⟨a', b', c', m'⟩] K (by omega) (by omega) (by omega)
  have s4 := size2 20 7 0 0 [⟨a, b, c, m⟩] K (by omega) (by omega) (by omega)
  have w1 : wrap64 (wrap64 (1 + (nodesBS m : Int) + (1 + (nodesBS m' : Int))) + 1) = 1 + (nodesBS [(⟨a, b, c, m⟩ : S29), ⟨a', b', c', m'⟩] : Int) := by
    rw [wrap_in (x := 1 + (nodesBS m : Int) + (1 + (nodesBS m' : Int))) (by omega) (by omega), wrap_in (by omega) (by omega)]
    omega
  have w2 : wrap64 (1 + (nodesBS m : Int) + 1) = 1 + (nodesBS [(⟨a, b, c, m⟩ : S29)] : Int) := by
    rw [wrap_in (by omega) (by omega)]
    omega
  clear n1 n2 g g'
  unfold laws_FnConditions.f laws_big.f
  rw [Option.bind_some, if_neg (by simpa using h), e, Option.bind_some]
  rw [s1, Option.bind_some, s2, Option.bind_some, impl_CondAnd.f, c1, Option.bind_some, c2, Option.bind_some, Option.bind_some]
  rw [s3, Option.bind_some, w1, if_pos rfl, impl_CondOr.f, c1, Option.bind_some, c2, Option.bind_some, Option.bind_some]
  rw [s3, Option.bind_some, if_pos rfl, impl_CondNot.f, c1, Option.bind_some, Option.bind_some, s4, Option.bind_some, Option.bind_some, w2, bne_self_eq_false]
  exact J
theorem FnConditions : laws_FnConditions.Pure := by
  intro l hw
  suffices h : ∀ k, 1100000 < k → laws_FnConditions.f (k + 1 + 1) l = some true from ⟨1100001 + 1 + 1, h _ (by omega)⟩
  intro k hk
  by_cases h : (l.length : Int) > 1048576
  · unfold laws_FnConditions.f laws_big.f
    rw [Option.bind_some, if_pos (decide_eq_true h)]
  · obtain ⟨a, b, c, m, a', b', c', m', e, g, g'⟩ := dConds l (by omega) (k + 1 + 1) (by omega)
    exact fcMain l a b c a' b' c' m m' g g' k hk h e
end Go.Proofs.Ythjhenhmjmpkaaa.Pure
